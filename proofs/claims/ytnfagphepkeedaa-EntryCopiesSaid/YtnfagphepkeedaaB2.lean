/-
  Plain laws of chapter 22: falling lists. No program.
  Contracts of chapter 6: bytes with their number, lists, fixed numbers. Contracts of chapter 6: lists; the reference's. Contracts of chapter 6: the reference's; fixed numbers written; live. Contracts of the pen's fixed numbers; live of chapter 6.
  Contracts of chapter 22: differences of falling lists. Contracts of chapter 22: falling lists read; the reference's; live.
  Plain laws of chapter 23: links. No program.
  Contracts of chapter 23: which links are well-formed, how they are written.
  Contracts of chapter 23: links read, by the code and by the reference.
  Words over any program: rows that are given and grow; values told less exactly within.
  Contracts of chapter 23: the reference's links; links extended; live.
  Contracts of chapter 23: links that are copied into a row that may turn; the place of a link among such.
  The seat's own two facts on its program.
  slices.Insert of one link into a row that may turn: the library's text is walked.
  slices.Insert of one link into a row that may turn: its contract.
  Contracts of chapter 23: the link of a stream, links with one more, or another one.
  Contracts of chapter 23: the document's words for the link of a stream, a link extended, links with one more.
  Contracts of chapter 23: the document's word for links with one more.
  Plain laws of the sum of bytes: its steps are linear, and tell a burst. No program.
  Plain laws of chapter 8: frames. No program.
  Plain laws of bits: numbers of 32 and of 8 digits; bytes some of whose digits are turned, and that a sum tells it. No program.
  Plain laws of chapter 8: where frames begin. No program.
  Plain laws of chapter 8: a reader without a fault has no place of one; frames that are cut, or turned. No program.
  Plain laws of chapter 17: epochs and positions read. No program.
  Plain laws of chapter 31: headers. No program.
  Plain laws of chapter 24: entries. No program.
  Plain laws: a reader of bytes that stand behind others reads the same, at other places. No program.
  Plain laws of chapter 33: footers. No program.
  Plain laws of chapter 35: segments of the version 1. No program.
  Plain laws of chapter 33: the footer with which bytes end. No program.
  Plain: where a reader's fault may stand. No program.
  Plain laws of chapter 35: batches as the version 2 writes them. No program.
  From a law told over abstract values to calls in a world; how arguments are told.
  Chapter 23: LinkReads, LinkWrites.
  Contracts of chapter 24: entries' heads, by the code and by the reference; live.
  Contracts of entries, many: law24.Many, Total, Join by the reference, All.
  Contract of entry.Deal.
  Contracts of epoch and of its reference.
  Plain laws of chapter 11: tokens. No program.
  Plain laws of things that are read to the end; tokens and the bytes that they make. No program.
  Contracts of chapter 11: tokens, one by one.
  Contracts of chapters 11 and 12: tokens by the reference; expanding tokens.
  Plain laws of chapter 12: the bytes of written tokens, how many they are. No program.
  Contracts of chapter 11: tokens written.
  Contracts of chapter 11: tokens written by the reference, tokens read.
  Contracts of chapter 11: all tokens of some bytes; are tokens the same; live.
  Contracts of chapter 35: which segments of the version 1 are well-formed, which are the same.
  Contracts of chapter 35: segments of the version 1, the same or not; by the reference; long ones.
  Contracts that turn three or four objects; a value of which nothing is told. Over any program.
  Contracts of chapters 3 and 7: sums of bytes, by the code and by the reference; bytes some of whose digits are turned; a number's bytes.
  Contracts of chapter 8: frames, by the code and by the reference.
  Contracts of header's functions.
  Contracts of header's reading functions.
  Contracts of the reference's headers; live.
  Contracts of footer's checks and of its payload's reading, and of the reference's.
  Contracts of footer's payload's reading, and of the reference's.
  Contracts of chapter 35: how a segment of the version 1 is read, step by step.
  Contracts of chapter 35: a segment of the version 1 read.
  Contracts of chapter 35: a segment of the version 1 read by the reference.
  Contracts of footer's trailer and of the reference's payload; live.
  Contracts of the reference's footers, written.
  Contracts of footers' writing.
  Contracts of chapter 35: a segment of the version 1 written; by the reference.
  Contracts of chapter 35: well-formed by the reference; live.
  Contracts of chapter 35: links, entries, batches, the same or not.
  Chapter 23: LinkChanges.
  Chapter 24: EntryCopies.
  What arguments of any shape are, told as abstract values: integers, slices, structs of these, one within the other.
  Contracts of chapter 8: where frames begin, by the code and by the reference; live.
  Chapter 8: FrameWrites, FrameReads, FrameBack, FrameTells.
  An element of a row of numbers.
  Chapter 8: FrameTells, FrameScans, FrameFinds.
  Chapter 8: FrameFinds.
  Arguments that are rows of bytes, or two numbers.
  Arguments that are links, or entries.
  What a function reaches, read off a table of where each function leads: the cells inPlace, unfollowed, recurses, named of a row, without walking the texts again for each row.
  Closed facts on the program of this seat: where each function leads, and what it names.
  The closed facts of the row of EntryCopies.
-/
import Derived.Test.YtnfagphepkeedaaB1
import Derived.Test.YtnfagphepkeedaaRows
import Derived.Lib.Walk
import Derived.Lib.SliceRun
import Derived.Lib.JoinLaws
import Derived.Lib.AppendZerosOnto
import Derived.Laws.Externs
import Derived.Laws.IdiomCopy
import Derived.Laws.LoneSync
import Derived.Shelf.Spec.SlicesInsert
import Derived.IntWalk
set_option linter.all false
set_option linter.unusedSimpArgs false
set_option linter.unusedVariables false
set_option linter.unnecessarySimpa false
section
section
namespace Go.Proofs.Ytnfagphepkeedaa

/-- What a thing behind these must be below. -/
def blw (b : Int) (acc : List Int) : Int := acc.getLastD b
theorem blw_snoc (b : Int) (acc : List Int) (x : Int) : blw b (acc ++ [x]) = x := by simp [blw]
theorem blw_get (b : Int) (acc : List Int) (h : 0 < acc.length) : blw b acc = acc.getD (acc.length - 1) 0 := by
  rcases List.eq_nil_or_concat acc with rfl | ⟨l, x, rfl⟩
  · simp at h
  · simp [blw]
theorem blw_take (b : Int) (l : List Int) (i : Nat) (h : i ≤ l.length) : blw b (l.take i) = if i = 0 then b else l.getD (i - 1) 0 := by
  split
  · rename_i h0; subst h0; rfl
  · rw [blw_get _ _ (by simp; omega)]
    have : (l.take i).length = i := by simp; omega
    rw [this]
    simp [show i - 1 < i from by omega]
def fallNx (b : Int) (acc : List Int) (x : Int) : Prop := 0 ≤ x ∧ x < blw b acc
def fallF (b : Int) : Fmt Int :=
  ⟨fun s acc => if s.vint.1.code = 0 ∧ blw b acc ≤ s.vint.2 then (s.vint.1.fail 13 s.at_, 0) else (s.vint.1, blw b acc - 1 - s.vint.2), fun acc x => vb (blw b acc - 1 - x), fallNx b⟩
theorem fall_le {b : Int} {acc : List Int} (h : Wf (fallNx b) [] acc) : blw b acc ≤ b := by
  have gen : ∀ n, ∀ acc : List Int, acc.length = n → Wf (fallNx b) [] acc → blw b acc ≤ b := by
    intro n
    induction n with
    | zero => intro acc h _; rw [List.eq_nil_of_length_eq_zero h]; exact Int.le_refl _
    | succ n ih =>
      intro acc h hw
      rcases List.eq_nil_or_concat acc with rfl | ⟨l, x, rfl⟩
      · simp at h
      · rw [List.concat_eq_append] at h hw ⊢
        obtain ⟨h1, h2⟩ := wf_snoc.1 hw
        have := ih l (by simpa using h) h1
        rw [blw_snoc]
        have h3 : x < blw b ([] ++ l) := h2.2
        simp only [List.nil_append] at h3
        omega
  exact gen _ acc rfl h
theorem fail_not0 {s : RS} (c a : Int) (h : s.code = 0) (hc : c ≠ 0) : ¬ (s.fail c a).code = 0 := by
  unfold RS.fail; rw [if_pos h]; simp [flt, hc]
theorem fallF_ok {b : Int} (hb : b < 18446744073709551616) : (fallF b).Ok := by
  refine ⟨fun s acc h _ => ?_, fun s acc h hw hc => ?_, fun s acc x r h hc hw hx hr => ?_, fun acc x hw hx => ?_⟩
  · obtain ⟨a, c⟩ := h.vint
    simp only [fallF]
    split
    · exact ⟨a.fail _ _, by rw [fail_l]; exact c⟩
    · exact ⟨a, c⟩
  · simp only [fallF] at hc ⊢
    by_cases hf : s.vint.1.code = 0 ∧ blw b acc ≤ s.vint.2
    · rw [if_pos hf] at hc; exact absurd hc (fail_not0 _ _ hf.1 (by decide))
    · rw [if_neg hf] at hc ⊢
      obtain ⟨v1, v2, v3⟩ := vint_bytes h hc
      have ha := vint_adv h hc
      have hv := vint_range (s := s) h.bys
      have hlt : s.vint.2 < blw b acc := by
        rcases Int.lt_or_le s.vint.2 (blw b acc) with h1 | h1
        · exact h1
        · exact absurd ⟨hc, h1⟩ hf
      have e : blw b acc - 1 - (blw b acc - 1 - s.vint.2) = s.vint.2 := by omega
      refine ⟨v3, ⟨by simp only; omega, by simp only; omega⟩, by simp only; omega, ?_⟩
      simp only
      rw [e]; exact v1
  · have hle := fall_le hw
    obtain ⟨x0, x1⟩ := hx
    simp only [fallF] at hr ⊢
    have hv := vint_own hc (by omega) (by omega) hr
    rw [hv]
    simp only
    rw [if_neg (by omega)]
    simp only [Prod.mk.injEq, true_and]
    omega
  · have hle := fall_le hw
    obtain ⟨x0, x1⟩ := hx
    exact vb_by (by omega) (by omega)
/-- Does a list fall below a number? -/
def falls (b : Int) (l : List Int) : Bool := (List.range l.length).all fun i => decide (l.getD i 0 < if i = 0 then b else l.getD (i - 1) 0)
theorem falls_iff {b : Int} {l : List Int} : falls b l = true ↔ ∀ i, i < l.length → l.getD i 0 < if i = 0 then b else l.getD (i - 1) 0 := by
  unfold falls
  simp only [List.all_eq_true, List.mem_range, decide_eq_true_eq]
theorem falls_not {b : Int} {l : List Int} {i : Nat} (hi : i < l.length) (h : (if i = 0 then b else l.getD (i - 1) 0) ≤ l.getD i 0) : falls b l = false := by
  cases hr : falls b l with
  | false => rfl
  | true => have := falls_iff.1 hr i hi; omega
theorem falls_wf {b : Int} {l : List Int} (hl : U64s l) : falls b l = true ↔ Wf (fallNx b) [] l := by
  rw [falls_iff]
  constructor
  · intro h
    refine wf_of fun k hk => ?_
    have h1 := h k hk
    have h2 := hl _ (getD_mem l k hk)
    simp only [List.nil_append]
    unfold fallNx
    rw [blw_take b l k (by omega)]
    have e : l.getD k 0 = l[k] := by simp [hk]
    rw [e] at h1 h2
    exact ⟨h2.1, h1⟩
  · intro h i hi
    have := wf_get i hi h
    simp only [List.nil_append] at this
    unfold fallNx at this
    rw [blw_take b l i (by omega)] at this
    have e : l.getD i 0 = l[i] := by simp [hi]
    rw [e]; exact this.2
def dst (b : Int) (l : List Int) (i : Nat) : Int := (if i = 0 then b else l.getD (i - 1) 0) - 1 - l.getD i 0
def dsts (b : Int) (l : List Int) (k : Nat) : List Int := (List.range k).map (dst b l)
theorem dsts_succ (b : Int) (l : List Int) (k : Nat) : dsts b l (k + 1) = dsts b l k ++ [dst b l k] := by simp [dsts, List.range_succ]
theorem dsts_len (b : Int) (l : List Int) (k : Nat) : (dsts b l k).length = k := by simp [dsts]
theorem dsts_get (b : Int) (l : List Int) (n k : Nat) (h : k < n) : (dsts b l n).getD k 0 = dst b l k := by simp [dsts, h]
theorem dst_range {b : Int} {l : List Int} (hb : b < 18446744073709551616) (hl : U64s l) (hf : falls b l = true) {i : Nat} (hi : i < l.length) : 0 ≤ dst b l i ∧ dst b l i < 18446744073709551616 := by
  have h1 := falls_iff.1 hf i hi
  have h2 := hl _ (getD_mem l i hi)
  unfold dst
  split at h1
  · rename_i h0; rw [if_pos h0]; omega
  · rename_i h0
    rw [if_neg h0]
    have := hl _ (getD_mem l (i - 1) (by omega))
    omega
theorem dsts_u64 {b : Int} {l : List Int} (hb : b < 18446744073709551616) (hl : U64s l) (hf : falls b l = true) {k : Nat} (hk : k ≤ l.length) : U64s (dsts b l k) := by
  intro x hx
  simp only [dsts, List.mem_map, List.mem_range] at hx
  obtain ⟨i, hi, rfl⟩ := hx
  exact dst_range hb hl hf (by omega)
theorem fall_encs {b : Int} {l : List Int} : encs (fallF b).enc [] l = vbs (dsts b l l.length) := by
  have gen : ∀ k, k ≤ l.length → encs (fallF b).enc [] (l.take k) = vbs (dsts b l k) := by
    intro k
    induction k with
    | zero => intro _; simp [encs, dsts, vbs]
    | succ k ih =>
      intro hk
      rw [take_snoc l k (by omega), encs_snoc, ih (by omega), dsts_succ, vbs_snoc]
      congr 1
      simp only [fallF, List.nil_append]
      rw [blw_take b l k (by omega)]
      rfl
  have := gen l.length (Nat.le_refl _)
  rwa [List.take_length] at this
/-- How a falling list is written. -/
def fallB (b : Int) (l : List Int) : List Int := vb l.length ++ vbs (dsts b l l.length)
def RS.fall (s : RS) (b m : Int) : RS × List Int := (fallF b).counted m s
/-- What stands ahead of a place of a list below a number. -/
def bat (b : Int) (l : List Int) (i : Nat) : Int := if i = 0 then b else l.getD (i - 1) 0
theorem bat_succ (b : Int) (l : List Int) (i : Nat) : bat b l (i + 1) = l.getD i 0 := by simp [bat]
theorem dst_bat (b : Int) (l : List Int) (i : Nat) : dst b l i = bat b l i - 1 - l.getD i 0 := rfl
theorem falls_bat {b : Int} {l : List Int} : falls b l = true ↔ ∀ i, i < l.length → l.getD i 0 < bat b l i := falls_iff
/-- A list that is moved on by a number. -/
def mov (l : List Int) (d : Int) : List Int := l.map fun x => x + d
end Go.Proofs.Ytnfagphepkeedaa
end
end
section
section
namespace Go.Proofs.Ytnfagphepkeedaa
open Go.RowKit

theorem len_u64 {β : Type} (b : List β) (h : b.length < 18446744073709551616) : IntKind.u64.wrap (b.length : Int) = (b.length : Int) := IntWalk.u64_in _ (by omega)
theorem i64_succ (k : Nat) (h : k < 140737488355329) : IntKind.i64.wrap ((k : Int) + 1) = ((k + 1 : Nat) : Int) := by rw [IntWalk.i64_in _ (by omega)]; omega

end Go.Proofs.Ytnfagphepkeedaa
end
section
namespace Go.Proofs.Ytnfagphepkeedaa
open Go.RowKit

end Go.Proofs.Ytnfagphepkeedaa
end
section
namespace Go.Proofs.Ytnfagphepkeedaa
open Go.RowKit

end Go.Proofs.Ytnfagphepkeedaa
end
section
namespace Go.Proofs.Ytnfagphepkeedaa
open Go.RowKit

end Go.Proofs.Ytnfagphepkeedaa
end
end
section
section
namespace Go.Proofs.Ytnfagphepkeedaa
open Go.RowKit

def dstR (b : Int) (l : List Int) : List Int := if falls b l = true then dsts b l l.length else []
theorem delta_Steps0 (b : Int) (l : List Int) (b0 : 0 ≤ b) (b1 : b < 18446744073709551616) (hl : U64s l) (hn : l.length * 8 ≤ 140737488355328) : Does Try.prog 54 [uA b, slU l] [] (.tup [slU (dstR b l), bA (falls b l)]) [] := by
  refine Does.runA Try.func54 b54 n54 Try.ntmps54 ?_; simp only [c54, go_sem, Nat.reduceAdd, Nat.reduceMul, Int.reduceToNat, Nat.reduceLeDiff, Int.reduceLE, Int.reduceLT, ↓reduceIte, Int.reduceBEq, Int.reduceBNe, Int.reduceAdd, Int.reduceSub, Int.reduceMul, ints_length]; try refine okTr_and rfl ?_
  refine loop_of (α := Nat) (fun k => [uA (bat b l k), .any, .any, .any, .any, .any, .sl (.row 0) 1 (ints .u64 (dsts b l k)), .any, .any, slU l, iA l.length, iA k, .any, .any, .any, .any, .any, .any, .any, .any, .any, .any, .any, .any, .any, .any, .any, .any]) (fun k => [.row 1 k]) (fun k => k ≤ l.length ∧ ∀ i, i < k → l.getD i 0 < bat b l i) (fun k => l.length - k) 0 ⟨by simp, by intro i hi; omega⟩ ((Wk.row 6 1 rfl (.inl rfl) (Nat.le_refl _)).trans (Wk.to (by simp) (by simp [leT, ints, dsts, bat]))) ?_
  rintro k ⟨hk, hf⟩
  have hbk : bat b l k < 18446744073709551616 := by
    unfold bat
    split
    · exact b1
    · exact (hl _ (getD_mem l (k - 1) (by omega))).2
  (simp only [go_sem, Nat.reduceAdd, Nat.reduceMul, Int.reduceToNat, Nat.reduceLeDiff, Int.reduceLE, Int.reduceLT, ↓reduceIte, Int.reduceBEq, Int.reduceBNe, Int.reduceAdd, Int.reduceSub, Int.reduceMul]; try refine okTr_and rfl ?_)
  refine cdK_split (fun h => ?_) (fun h => ?_)
  · have hlt : k < l.length := by simpa using h
    have g := u64_get l k hlt
    have hx := hl _ (getD_mem l k hlt)
    have ei := i64_succ k (by omega)
    (simp only [go_sem, Nat.reduceAdd, Nat.reduceMul, Int.reduceToNat, Nat.reduceLeDiff, Int.reduceLE, Int.reduceLT, ↓reduceIte, Int.reduceBEq, Int.reduceBNe, Int.reduceAdd, Int.reduceSub, Int.reduceMul, g, ints_length]; try refine okTr_and rfl ?_)
    (repeat ((with_reducible refine And.intro ?_ ?_); (· exact sd)))
    refine cdK_split (fun h => ?_) (fun h => ?_)
    · have h2 : bat b l k ≤ l.getD k 0 := by simpa using h
      have hno : falls b l = false := falls_not hlt h2
      (simp only [go_sem, Nat.reduceAdd, Nat.reduceMul, Int.reduceToNat, Nat.reduceLeDiff, Int.reduceLE, Int.reduceLT, ↓reduceIte, Int.reduceBEq, Int.reduceBNe, Int.reduceAdd, Int.reduceSub, Int.reduceMul]; try refine okTr_and rfl ?_)
      (refine FinK.untag 4 rfl ?_; simp only [untag1_sl, List.set_cons_zero, List.set_cons_succ])
      ((refine FinK.finB r54 [] ?_ ?_); (· first | with_reducible rfl | (simp [hno, dstR]; done) | rfl); (· simp [resAL, resA1, loadA, oneOr, hno, dstR]))
    · have h2 : l.getD k 0 < bat b l k := by simp at h; simpa using h
      have hs := dsts_succ b l k
      have e1 : IntKind.u64.wrap (bat b l k - l.getD k 0) = bat b l k - l.getD k 0 := IntWalk.u64_in _ (by omega)
      have e2 : IntKind.u64.wrap (bat b l k - l.getD k 0 - 1) = dst b l k := by rw [IntWalk.u64_in _ (by omega), dst_bat]; omega
      (simp only [go_sem, Nat.reduceAdd, Nat.reduceMul, Int.reduceToNat, Nat.reduceLeDiff, Int.reduceLE, Int.reduceLT, ↓reduceIte, Int.reduceBEq, Int.reduceBNe, Int.reduceAdd, Int.reduceSub, Int.reduceMul, e1, e2, ei, ints_snoc, ← hs, ints_length, dsts_len]; try refine okTr_and rfl ?_)
      (repeat ((with_reducible refine And.intro ?_ ?_); (· exact sd)))
      refine ⟨k + 1, ⟨hlt, fun i hi => ?_⟩, by omega, Wk.to (by simp) (by simp [leT, bat_succ])⟩
      rcases Nat.lt_or_ge i k with h3 | h3
      · exact hf i h3
      · obtain rfl : i = k := by omega
        exact h2
  · have ek : k = l.length := by simp at h; omega
    have hyes : falls b l = true := falls_bat.2 fun i hi => hf i (by omega)
    (simp only [go_sem, Nat.reduceAdd, Nat.reduceMul, Int.reduceToNat, Nat.reduceLeDiff, Int.reduceLE, Int.reduceLT, ↓reduceIte, Int.reduceBEq, Int.reduceBNe, Int.reduceAdd, Int.reduceSub, Int.reduceMul]; try refine okTr_and rfl ?_)
    (refine FinK.untag 4 rfl ?_; simp only [untag1_sl, List.set_cons_zero, List.set_cons_succ])
    ((refine FinK.finB r54 [] ?_ ?_); (· first | with_reducible rfl | (simp [hyes, dstR, ek]; done) | rfl); (· simp [resAL, resA1, loadA, oneOr, hyes, dstR, ek]))
theorem delta_Steps (b : Int) (l : List Int) (b0 : 0 ≤ b) (b1 : b < 18446744073709551616) (hl : U64s l) (hn : l.length * 8 ≤ 140737488355328) : Ct Try.prog 54 [uA b, slU l] [] (fun _ => .tup [slU (dstR b l), bA (falls b l)]) [] (fun _ => []) := (delta_Steps0 b l b0 b1 hl hn).toCt cl cl
theorem delta_Falls0 (b : Int) (l : List Int) (b0 : 0 ≤ b) (b1 : b < 18446744073709551616) (hl : U64s l) (hn : l.length * 8 ≤ 140737488355328) : Does Try.prog 38 [uA b, slU l] [] (bA (falls b l)) [] := by
  refine Does.runA Try.func38 b38 n38 Try.ntmps38 ?_; simp only [c38, go_sem, Nat.reduceAdd, Nat.reduceMul, Int.reduceToNat, Nat.reduceLeDiff, Int.reduceLE, Int.reduceLT, ↓reduceIte, Int.reduceBEq, Int.reduceBNe, Int.reduceAdd, Int.reduceSub, Int.reduceMul]; try refine okTr_and rfl ?_
  refine CallK.p (delta_Steps b l b0 b1 hl hn) ?_; (simp only [go_sem, Nat.reduceAdd, Nat.reduceMul, Int.reduceToNat, Nat.reduceLeDiff, Int.reduceLE, Int.reduceLT, ↓reduceIte, Int.reduceBEq, Int.reduceBNe, Int.reduceAdd, Int.reduceSub, Int.reduceMul]; try refine okTr_and rfl ?_)
  exact FinK.finA r38 []
theorem delta_Falls (b : Int) (l : List Int) (b0 : 0 ≤ b) (b1 : b < 18446744073709551616) (hl : U64s l) (hn : l.length * 8 ≤ 140737488355328) : Ct Try.prog 38 [uA b, slU l] [] (fun _ => bA (falls b l)) [] (fun _ => []) := (delta_Falls0 b l b0 b1 hl hn).toCt cl cl

def WS.fall (s : WS) (b : Int) (l : List Int) : WS := if falls b l = true then (s.put (vb l.length)).puts (dsts b l l.length) else s.fail 3
theorem delta_Put0 (s : WS) (b : Int) (l : List Int) (hs : s.fine) (b0 : 0 ≤ b) (b1 : b < 18446744073709551616) (hl : U64s l) (hn : l.length * 8 ≤ 140737488355328) : Does Try.prog 53 [.ref 0 0, uA b, slU l] [wob 1 s, wrow s] (.tup []) [wob 1 (s.fall b l), wrow (s.fall b l)] := by
  have e := len_u64 l (by omega)
  refine Does.runA Try.func53 b53 n53 Try.ntmps53 ?_; simp only [c53, go_sem, Nat.reduceAdd, Nat.reduceMul, Int.reduceToNat, Nat.reduceLeDiff, Int.reduceLE, Int.reduceLT, ↓reduceIte, Int.reduceBEq, Int.reduceBNe, Int.reduceAdd, Int.reduceSub, Int.reduceMul]; try refine okTr_and rfl ?_
  refine CallK.p (delta_Steps b l b0 b1 hl hn) ?_
  cases hf : falls b l
  · (simp only [go_sem, Nat.reduceAdd, Nat.reduceMul, Int.reduceToNat, Nat.reduceLeDiff, Int.reduceLE, Int.reduceLT, ↓reduceIte, Int.reduceBEq, Int.reduceBNe, Int.reduceAdd, Int.reduceSub, Int.reduceMul, hf]; try refine okTr_and rfl ?_)
    refine CallK.u2 (Writer_Fail s 3 0 1 (by decide)) rfl rfl ?_; (simp only [go_sem, Nat.reduceAdd, Nat.reduceMul, Int.reduceToNat, Nat.reduceLeDiff, Int.reduceLE, Int.reduceLT, ↓reduceIte, Int.reduceBEq, Int.reduceBNe, Int.reduceAdd, Int.reduceSub, Int.reduceMul]; try refine okTr_and rfl ?_)
    ((refine FinK.finB r53 [0, 1] ?_ ?_); (· first | with_reducible rfl | (simp [WS.fall, hf]; done) | rfl); (· simp [resAL, resA1, loadA, oneOr, WS.fall, hf]))
  · have hd : dstR b l = dsts b l l.length := by unfold dstR; rw [if_pos hf]
    (simp only [go_sem, Nat.reduceAdd, Nat.reduceMul, Int.reduceToNat, Nat.reduceLeDiff, Int.reduceLE, Int.reduceLT, ↓reduceIte, Int.reduceBEq, Int.reduceBNe, Int.reduceAdd, Int.reduceSub, Int.reduceMul, hf, hd, ints_length, e]; try refine okTr_and rfl ?_)
    refine CallK.u2 (varint_Put s l.length 0 1 (by decide) (by omega) (by omega) hs.ok (hs.room _)) rfl rfl ?_; (simp only [go_sem, Nat.reduceAdd, Nat.reduceMul, Int.reduceToNat, Nat.reduceLeDiff, Int.reduceLE, Int.reduceLT, ↓reduceIte, Int.reduceBEq, Int.reduceBNe, Int.reduceAdd, Int.reduceSub, Int.reduceMul, ints_length, dsts_len]; try refine okTr_and rfl ?_)
    refine loop_of (α := Nat) (fun k => [.ref 0 0, .any, .any, .any, .any, .any, .any, .any, .any, .any, .any, .any, .any, .any, .any, .any, .any, .any, .any, .any, .any, .any, .any, .any, .any, slU (dsts b l l.length), iA l.length, iA k, .any, .any, .any, .any, .any, .any, .any]) (fun k => [wob 1 ((s.put (vb l.length)).puts (dsts b l k)), wrow ((s.put (vb l.length)).puts (dsts b l k))]) (fun k => k ≤ l.length) (fun k => l.length - k) 0 (by simp) (Wk.to (by simp [WS.puts, dsts]) (by simp [leT])) ?_
    intro k hk
    (simp only [go_sem, Nat.reduceAdd, Nat.reduceMul, Int.reduceToNat, Nat.reduceLeDiff, Int.reduceLE, Int.reduceLT, ↓reduceIte, Int.reduceBEq, Int.reduceBNe, Int.reduceAdd, Int.reduceSub, Int.reduceMul]; try refine okTr_and rfl ?_)
    refine cdK_split (fun h => ?_) (fun h => ?_)
    · have hlt : k < l.length := by simpa using h
      have g : (ints .u64 (dsts b l l.length)).getD (k : Int).toNat .any = uA (dst b l k) := by rw [u64_get _ k (by rw [dsts_len]; exact hlt), dsts_get b l _ k hlt]
      have hx := dst_range b1 hl hf hlt
      have ei := i64_succ k (by omega)
      have hps := puts_snoc (s.put (vb l.length)) (dsts b l k) (dst b l k)
      rw [← dsts_succ] at hps
      (simp only [go_sem, Nat.reduceAdd, Nat.reduceMul, Int.reduceToNat, Nat.reduceLeDiff, Int.reduceLE, Int.reduceLT, ↓reduceIte, Int.reduceBEq, Int.reduceBNe, Int.reduceAdd, Int.reduceSub, Int.reduceMul, g, ints_length, dsts_len]; try refine okTr_and rfl ?_)
      (repeat ((with_reducible refine And.intro ?_ ?_); (· exact sd)))
      refine CallK.u2 (varint_Put _ (dst b l k) 0 1 (by decide) hx.1 hx.2 ((hs.put _).puts _).ok (((hs.put _).puts _).room _)) rfl rfl ?_; (simp only [go_sem, Nat.reduceAdd, Nat.reduceMul, Int.reduceToNat, Nat.reduceLeDiff, Int.reduceLE, Int.reduceLT, ↓reduceIte, Int.reduceBEq, Int.reduceBNe, Int.reduceAdd, Int.reduceSub, Int.reduceMul, ei, ← hps]; try refine okTr_and rfl ?_)
      exact ⟨k + 1, hlt, by omega, Wk.to (by simp) (by simp [leT])⟩
    · have ek : k = l.length := by simp at h; omega
      (simp only [go_sem, Nat.reduceAdd, Nat.reduceMul, Int.reduceToNat, Nat.reduceLeDiff, Int.reduceLE, Int.reduceLT, ↓reduceIte, Int.reduceBEq, Int.reduceBNe, Int.reduceAdd, Int.reduceSub, Int.reduceMul]; try refine okTr_and rfl ?_)
      ((refine FinK.finB r53 [0, 1] ?_ ?_); (· first | with_reducible rfl | (simp [WS.fall, hf, ek]; done) | rfl); (· simp [resAL, resA1, loadA, oneOr, WS.fall, hf, ek]))
theorem delta_Put (s : WS) (b : Int) (l : List Int) (i j : Nat) (h : i ≠ j) (hs : s.fine) (b0 : 0 ≤ b) (b1 : b < 18446744073709551616) (hl : U64s l) (hn : l.length * 8 ≤ 140737488355328) : Ct Try.prog 53 [.ref i 0, uA b, slU l] [(i, wob j s), (j, wrow s)] (fun _ => .tup []) [(i, wob j (s.fall b l)), (j, wrow (s.fall b l))] (fun _ => []) := Ct.u2 (delta_Put0 s b l hs b0 b1 hl hn) i j h cl cl cl cl cl (wob_dead _ _) (wrow_dead _) clo
end Go.Proofs.Ytnfagphepkeedaa
end
section
namespace Go.Proofs.Ytnfagphepkeedaa
open Go.RowKit

end Go.Proofs.Ytnfagphepkeedaa
end
end
section
namespace Go.Proofs.Ytnfagphepkeedaa

/-- A link: a stream, and the entries of it ahead. -/
structure Lk where
  st : Int
  bk : List Int
  deriving DecidableEq
def lk0 : Lk := ⟨0, []⟩
structure Lk.ok (x : Lk) : Prop where
  s0 : 0 ≤ x.st
  s1 : x.st < 18446744073709551616
  b : U64s x.bk
def Lks (l : List Lk) : Prop := ∀ x ∈ l, x.ok
/-- The stream of the last of some links; -1: there is none. -/
def lst (acc : List Lk) : Int := (acc.getLastD ⟨-1, []⟩).st
theorem lst_snoc (acc : List Lk) (x : Lk) : lst (acc ++ [x]) = x.st := by simp [lst]
theorem lst_get (l : List Lk) (h : 0 < l.length) : lst l = (l.getD (l.length - 1) lk0).st := by
  rcases List.eq_nil_or_concat l with rfl | ⟨l, x, rfl⟩
  · simp at h
  · simp [lst]
theorem lst_take (l : List Lk) (i : Nat) (h : i ≤ l.length) : lst (l.take i) = if i = 0 then -1 else (l.getD (i - 1) lk0).st := by
  split
  · rename_i h0; subst h0; rfl
  · rw [lst_get _ (by simp; omega)]
    have : (l.take i).length = i := by simp; omega
    rw [this]
    simp [show i - 1 < i by omega]
def linkNx (pos : Int) (acc : List Lk) (x : Lk) : Prop := lst acc < x.st ∧ x.st < 18446744073709551616 ∧ U64s x.bk ∧ falls pos x.bk = true ∧ x.bk.length ≤ 4
/-- The reader behind a stream's number. -/
def RS.lkHead (s : RS) (acc : List Lk) : RS := if s.vint.1.code = 0 ∧ 18446744073709551616 ≤ lst acc + 1 + s.vint.2 then s.vint.1.fail 13 s.at_ else s.vint.1
def linkF (pos : Int) : Fmt Lk :=
  ⟨fun s acc => (((s.lkHead acc).fall pos 4).1, ⟨lst acc + 1 + s.vint.2, ((s.lkHead acc).fall pos 4).2⟩), fun acc x => vb (x.st - lst acc - 1) ++ fallB pos x.bk, linkNx pos⟩
theorem lst_ge {pos : Int} {acc : List Lk} (h : Wf (linkNx pos) [] acc) : -1 ≤ lst acc ∧ lst acc < 18446744073709551616 := by
  have gen : ∀ n, ∀ acc : List Lk, acc.length = n → Wf (linkNx pos) [] acc → -1 ≤ lst acc ∧ lst acc < 18446744073709551616 := by
    intro n
    induction n with
    | zero => intro acc h _; rw [List.eq_nil_of_length_eq_zero h]; exact ⟨Int.le_refl _, by decide⟩
    | succ n ih =>
      intro acc h hw
      rcases List.eq_nil_or_concat acc with rfl | ⟨l, x, rfl⟩
      · simp at h
      · rw [List.concat_eq_append] at h hw ⊢
        obtain ⟨h1, h2⟩ := wf_snoc.1 hw
        have := ih l (by simpa using h) h1
        rw [lst_snoc]
        have h3 : lst ([] ++ l) < x.st := h2.1
        simp only [List.nil_append] at h3
        exact ⟨by omega, h2.2.1⟩
  exact gen _ acc rfl h
theorem fall_keep {s : RS} {b : Int} (h : ROk s) (hb : b < 18446744073709551616) (m : Int) : ROk (s.fall b m).1 ∧ (s.fall b m).1.l = s.l := counted_keep (fallF_ok hb) h m
theorem fallB_bys {b : Int} {l : List Int} (hb : b < 18446744073709551616) (hl : U64s l) (hf : falls b l = true) (hn : l.length < 18446744073709551616) : Bys (fallB b l) := by
  unfold fallB
  intro y hy
  rcases List.mem_append.1 hy with hy | hy
  · exact vb_by (by omega) (by omega) y hy
  · exact vbs_bys (dsts_u64 hb hl hf (Nat.le_refl _)) y hy
theorem fall_is {s : RS} {b m : Int} (h : ROk s) (b0 : 0 ≤ b) (hb : b < 18446744073709551616) (hc : (s.fall b m).1.code = 0) : s.code = 0 ∧ U64s (s.fall b m).2 ∧ falls b (s.fall b m).2 = true ∧ ((s.fall b m).2.length : Int) ≤ m ∧ s.at_ < (s.fall b m).1.at_ ∧ s.l.take (s.fall b m).1.at_.toNat = s.l.take s.at_.toNat ++ fallB b (s.fall b m).2 := by
  obtain ⟨c1, c2, c3, c4, c5⟩ := counted_is (fallF_ok hb) h hc
  have hu : U64s (s.fall b m).2 := by
    intro x hx
    obtain ⟨i, hi, rfl⟩ := List.getElem_of_mem hx
    have hn := wf_get i hi c1
    have hw := wf_take i c1
    have hl := fall_le hw
    simp only [List.nil_append] at hn
    have hn1 : 0 ≤ (s.fall b m).2[i] ∧ (s.fall b m).2[i] < blw b ((s.fall b m).2.take i) := hn
    exact ⟨hn1.1, by have : blw b ((s.fall b m).2.take i) ≤ b := hl; omega⟩
  refine ⟨c3, hu, (falls_wf hu).2 c1, c2, c5, ?_⟩
  have e : encs (fallF b).enc [] ((fallF b).counted m s).2 = vbs (dsts b ((fallF b).counted m s).2 ((fallF b).counted m s).2.length) := fall_encs
  rw [e, List.append_assoc] at c4
  exact c4
theorem fall_own {s : RS} {b m : Int} {l r : List Int} (h : ROk s) (hc : s.code = 0) (hb : b < 18446744073709551616) (hl : U64s l) (hf : falls b l = true) (hm : (l.length : Int) ≤ m) (hn : l.length < 18446744073709551616) (hr : s.rest = fallB b l ++ r) : s.fall b m = (s.adv ((fallB b l).length : Int), l) := by
  have hw := (falls_wf hl).1 hf
  unfold fallB at hr ⊢
  rw [List.append_assoc] at hr
  have e : encs (fallF b).enc [] l = vbs (dsts b l l.length) := fall_encs
  have := counted_own (fallF_ok hb) h hc hm hw hn (r := r) (by rw [e]; exact hr)
  unfold RS.fall
  rw [this, e, List.length_append]
  rfl
theorem linkF_ok {pos : Int} (p0 : 0 ≤ pos) (p1 : pos < 18446744073709551616) : (linkF pos).Ok := by
  refine ⟨fun s acc h _ => ?_, fun s acc h hw hc => ?_, fun s acc x r h hc hw hx hr => ?_, fun acc x hw hx => ?_⟩
  · obtain ⟨a, c⟩ := h.vint
    have hk : ROk (s.lkHead acc) ∧ (s.lkHead acc).l = s.l := by
      unfold RS.lkHead
      split
      · exact ⟨a.fail _ _, by rw [fail_l]; exact c⟩
      · exact ⟨a, c⟩
    have hf := fall_keep hk.1 p1 4
    exact ⟨hf.1, hf.2.trans hk.2⟩
  · have hg := lst_ge hw
    have hv := vint_range (s := s) h.bys
    obtain ⟨a, c⟩ := h.vint
    have hkh : (s.lkHead acc).code = 0 ∧ ROk (s.lkHead acc) := by
      have hk : ROk (s.lkHead acc) := by
        unfold RS.lkHead
        split
        · exact a.fail _ _
        · exact a
      exact ⟨(fall_is hk p0 p1 hc).1, hk⟩
    have hno : ¬ (s.vint.1.code = 0 ∧ 18446744073709551616 ≤ lst acc + 1 + s.vint.2) := by
      intro hx
      have := hkh.1
      unfold RS.lkHead at this
      rw [if_pos hx] at this
      exact absurd this (fail_not0 _ _ hx.1 (by decide))
    have hke : s.lkHead acc = s.vint.1 := by unfold RS.lkHead; rw [if_neg hno]
    have hc' : ((s.lkHead acc).fall pos 4).1.code = 0 := hc
    rw [hke] at hkh hc'
    obtain ⟨f1, f2, f3, f4, f5, f6⟩ := fall_is hkh.2 p0 p1 hc'
    obtain ⟨v1, v2, v3⟩ := vint_bytes h hkh.1
    have ha := vint_adv h hkh.1
    have hlt : lst acc + 1 + s.vint.2 < 18446744073709551616 := by
      rcases Int.lt_or_le (lst acc + 1 + s.vint.2) 18446744073709551616 with h1 | h1
      · exact h1
      · exact absurd ⟨hkh.1, h1⟩ hno
    simp only [linkF]
    rw [hke]
    refine ⟨v3, ⟨by simp only; omega, hlt, f2, f3, by simp only; omega⟩, by omega, ?_⟩
    rw [c] at f6
    rw [f6, v1, List.append_assoc]
    have e : lst acc + 1 + s.vint.2 - lst acc - 1 = s.vint.2 := by omega
    rw [e]
  · have hg := lst_ge hw
    obtain ⟨x1, x2, x3, x4, x5⟩ := hx
    simp only [linkF] at hr ⊢
    rw [List.append_assoc] at hr
    have hv := vint_own hc (by omega) (by omega) hr
    have hok := adv_ok h hr
    have hke : s.lkHead acc = s.adv ((vb (x.st - lst acc - 1)).length : Int) := by
      unfold RS.lkHead; rw [hv]; simp only; rw [if_neg (by omega)]
    have hr2 : (s.adv ((vb (x.st - lst acc - 1)).length : Int)).rest = fallB pos x.bk ++ r := by rw [adv_rest h.at0, hr, List.drop_left]
    have hfo := fall_own (m := 4) hok (show (s.adv ((vb (x.st - lst acc - 1)).length : Int)).code = 0 from hc) p1 x3 x4 (by omega) (by omega) hr2
    rw [hke, hfo, hv, adv_adv]
    simp only [Prod.mk.injEq]
    refine ⟨by rw [List.length_append]; rfl, ?_⟩
    cases x
    simp only [Lk.mk.injEq, and_true]
    simp only at x1
    omega
  · have hg := lst_ge hw
    obtain ⟨x1, x2, x3, x4, x5⟩ := hx
    intro y hy
    rcases List.mem_append.1 hy with hy | hy
    · exact vb_by (by omega) (by omega) y hy
    · exact fallB_bys p1 x3 x4 (by omega) y hy
/-- Do links rise by their streams? -/
def risesL (l : List Lk) : Bool := (List.range l.length).all fun i => decide (i = 0 ∨ (l.getD (i - 1) lk0).st < (l.getD i lk0).st)
theorem risesL_iff {l : List Lk} : risesL l = true ↔ ∀ i, i < l.length → 0 < i → (l.getD (i - 1) lk0).st < (l.getD i lk0).st := by
  unfold risesL
  rw [List.all_eq_true]
  constructor
  · intro h i hi h0
    have := h i (List.mem_range.2 hi)
    simp only [decide_eq_true_eq] at this
    omega
  · intro h i hi
    simp only [decide_eq_true_eq]
    rcases Nat.eq_zero_or_pos i with h0 | h0
    · exact .inl h0
    · exact .inr (h i (List.mem_range.1 hi) h0)
def goodL (pos : Int) (x : Lk) : Bool := decide (x.bk.length ≤ 4) && falls pos x.bk
/-- Are links well-formed? -/
def rightL (pos : Int) (l : List Lk) : Bool := decide (l.length ≤ 16) && risesL l && l.all (goodL pos)
theorem rightL_iff {pos : Int} {l : List Lk} : rightL pos l = true ↔ l.length ≤ 16 ∧ risesL l = true ∧ ∀ x ∈ l, goodL pos x = true := by
  simp [rightL, and_assoc]
theorem lk_mem (l : List Lk) (k : Nat) (h : k < l.length) : l.getD k lk0 ∈ l := by simp [h]
/-- How links are written. -/
def linksB (pos : Int) (l : List Lk) : List Int := vb l.length ++ encs (linkF pos).enc [] l
/-- The reader behind links, and these. -/
def RS.links (s : RS) (pos : Int) : RS × List Lk := (linkF pos).counted 16 s
theorem links_keep {s : RS} {pos : Int} (h : ROk s) (p0 : 0 ≤ pos) (p1 : pos < 18446744073709551616) : ROk (s.links pos).1 ∧ (s.links pos).1.l = s.l := counted_keep (linkF_ok p0 p1) h 16
end Go.Proofs.Ytnfagphepkeedaa
end
section
namespace Go.Proofs.Ytnfagphepkeedaa
open Go.RowKit

/-- A link, links. -/
abbrev lkA (x : Lk) : AV := .agg [uA x.st, slU x.bk]
def lks (l : List Lk) : List AV := l.map lkA
abbrev slL (l : List Lk) : AV := .sl .none 2 (lks l)
@[simp] theorem ren_lks (ρ : Nat → Nat) (l : List Lk) : (lks l).map (fun x => x.ren ρ) = lks l := by
  have h : ∀ (k : IntKind) (m : List Int), (ints k m).map (fun x => x.ren ρ) = ints k m := ren_ints ρ
  simp [lks, ixs_z]
@[simp] theorem ren_ints_l (ρ : Nat → Nat) (k : IntKind) (l : List Int) : (ints k l).map (fun x => x.ren ρ) = ints k l := ren_ints ρ k l
theorem lks_length (l : List Lk) : (lks l).length = l.length := by simp [lks]
theorem lks_snoc (l : List Lk) (x : Lk) : lks l ++ [lkA x] = lks (l ++ [x]) := by simp [lks]
theorem lks_get (l : List Lk) (k : Nat) (h : k < l.length) : (lks l).getD k .any = lkA (l.getD k lk0) := by simp [lks, h]
theorem lk_take (l : List Lk) (k : Nat) (h : k < l.length) : l.take (k + 1) = l.take k ++ [l.getD k lk0] := by
  rw [List.take_succ_eq_append_getElem h]; simp [h]
theorem Lks.take {l : List Lk} (h : Lks l) (k : Nat) : Lks (l.take k) := fun x hx => h x (List.mem_of_mem_take hx)
theorem i64_pred (k : Nat) (h0 : 0 < k) (h : k < 140737488355328) : IntKind.i64.wrap ((k : Int) - 1) = ((k - 1 : Nat) : Int) := by rw [IntWalk.i64_in _ (by omega)]; omega
theorem link_stream0 (x : Lk) : Does Try.prog 36 [lkA x] [] (uA x.st) [] := by
  refine Does.runA Try.func36 b36 n36 Try.ntmps36 ?_; simp only [c36, go_sem, Nat.reduceAdd, Nat.reduceMul, Int.reduceToNat, Nat.reduceLeDiff, Int.reduceLE, Int.reduceLT, ↓reduceIte, Int.reduceBEq, Int.reduceBNe, Int.reduceAdd, Int.reduceSub, Int.reduceMul]; try refine okTr_and rfl ?_
  exact FinK.finA r36 []
theorem link_stream (x : Lk) : Ct Try.prog 36 [lkA x] [] (fun _ => uA x.st) [] (fun _ => []) := (link_stream0 x).toCt cl cl
set_option maxRecDepth 100000 in
theorem link_rises0 (l : List Lk) (hn : l.length ≤ 1000000) : Does Try.prog 35 [slL l, .fn 36 [] []] [] (bA (risesL l)) [] := by
  refine Does.runA Try.func35 b35 n35 Try.ntmps35 ?_; simp only [c35, go_sem, Nat.reduceAdd, Nat.reduceMul, Int.reduceToNat, Nat.reduceLeDiff, Int.reduceLE, Int.reduceLT, ↓reduceIte, Int.reduceBEq, Int.reduceBNe, Int.reduceAdd, Int.reduceSub, Int.reduceMul, lks_length]; try refine okTr_and rfl ?_
  refine loop_of (α := Nat) (fun k => [slL l, .fn 36 [] [], .any, .any, .any, .any, .any, iA l.length, iA k, .any, .any, .any, .any, .any, .any, .any, .any, .any, .any, .any, .any, .any, .any, .any, .any, .any, .any, .any, .any, .any]) (fun _ => []) (fun k => k ≤ l.length ∧ ∀ i, i < k → 0 < i → (l.getD (i - 1) lk0).st < (l.getD i lk0).st) (fun k => l.length - k) 0 ⟨by simp, fun i hi => by omega⟩ (Wk.to (by simp) (by simp [leT])) ?_
  rintro k ⟨hk, hall⟩
  (simp only [go_sem, Nat.reduceAdd, Nat.reduceMul, Int.reduceToNat, Nat.reduceLeDiff, Int.reduceLE, Int.reduceLT, ↓reduceIte, Int.reduceBEq, Int.reduceBNe, Int.reduceAdd, Int.reduceSub, Int.reduceMul]; try refine okTr_and rfl ?_)
  by_cases hlt : k < l.length
  · have q1 : decide ((k : Int) < (l.length : Int)) = true := by simp; omega
    have ek := i64_succ k (by omega)
    have g := lks_get l k hlt
    by_cases h0 : 0 < k
    · have q2 : decide ((0 : Int) < (k : Int)) = true := by simp; omega
      have ep := i64_pred k h0 (by omega)
      have g2 := lks_get l (k - 1) (by omega)
      (simp only [go_sem, Nat.reduceAdd, Nat.reduceMul, Int.reduceToNat, Nat.reduceLeDiff, Int.reduceLE, Int.reduceLT, ↓reduceIte, Int.reduceBEq, Int.reduceBNe, Int.reduceAdd, Int.reduceSub, Int.reduceMul, q1, q2, g, lks_length, Int.toNat_natCast]; try refine okTr_and rfl ?_)
      (repeat ((with_reducible refine And.intro ?_ ?_); (· exact sd)))
      refine CallK.p (link_stream (l.getD k lk0)) ?_; (simp only [go_sem, Nat.reduceAdd, Nat.reduceMul, Int.reduceToNat, Nat.reduceLeDiff, Int.reduceLE, Int.reduceLT, ↓reduceIte, Int.reduceBEq, Int.reduceBNe, Int.reduceAdd, Int.reduceSub, Int.reduceMul, ep, g2, lks_length, Int.toNat_natCast]; try refine okTr_and rfl ?_)
      (repeat ((with_reducible refine And.intro ?_ ?_); (· exact sd)))
      refine CallK.p (link_stream (l.getD (k - 1) lk0)) ?_
      by_cases hs : (l.getD k lk0).st ≤ (l.getD (k - 1) lk0).st
      · have q3 : decide ((l.getD k lk0).st ≤ (l.getD (k - 1) lk0).st) = true := by simpa using hs
        have e : risesL l = false := by
          cases hr : risesL l with
          | false => rfl
          | true => have := risesL_iff.1 hr k hlt h0; omega
        (simp only [go_sem, Nat.reduceAdd, Nat.reduceMul, Int.reduceToNat, Nat.reduceLeDiff, Int.reduceLE, Int.reduceLT, ↓reduceIte, Int.reduceBEq, Int.reduceBNe, Int.reduceAdd, Int.reduceSub, Int.reduceMul, q3]; try refine okTr_and rfl ?_)
        ((refine FinK.finB r35 [] ?_ ?_); (· first | with_reducible rfl | (simp [e]; done) | rfl); (· simp [resAL, resA1, loadA, oneOr, e]))
      · have q3 : decide ((l.getD k lk0).st ≤ (l.getD (k - 1) lk0).st) = false := by simpa using hs
        (simp only [go_sem, Nat.reduceAdd, Nat.reduceMul, Int.reduceToNat, Nat.reduceLeDiff, Int.reduceLE, Int.reduceLT, ↓reduceIte, Int.reduceBEq, Int.reduceBNe, Int.reduceAdd, Int.reduceSub, Int.reduceMul, q3, ek]; try refine okTr_and rfl ?_)
        exact ⟨k + 1, ⟨hlt, fun i hi h1 => by
          rcases Nat.lt_or_ge i k with h | h
          · exact hall i h h1
          · obtain rfl : i = k := by omega
            omega⟩, by omega, Wk.to (by simp) (by simp [leT])⟩
    · have q2 : decide ((0 : Int) < (k : Int)) = false := by simp; omega
      (simp only [go_sem, Nat.reduceAdd, Nat.reduceMul, Int.reduceToNat, Nat.reduceLeDiff, Int.reduceLE, Int.reduceLT, ↓reduceIte, Int.reduceBEq, Int.reduceBNe, Int.reduceAdd, Int.reduceSub, Int.reduceMul, q1, q2, ek]; try refine okTr_and rfl ?_)
      exact ⟨k + 1, ⟨hlt, fun i hi h1 => by omega⟩, by omega, Wk.to (by simp) (by simp [leT])⟩
  · have q1 : decide ((k : Int) < (l.length : Int)) = false := by simp; omega
    have e : risesL l = true := risesL_iff.2 fun i hi h0 => hall i (by omega) h0
    (simp only [go_sem, Nat.reduceAdd, Nat.reduceMul, Int.reduceToNat, Nat.reduceLeDiff, Int.reduceLE, Int.reduceLT, ↓reduceIte, Int.reduceBEq, Int.reduceBNe, Int.reduceAdd, Int.reduceSub, Int.reduceMul, q1]; try refine okTr_and rfl ?_)
    ((refine FinK.finB r35 [] ?_ ?_); (· first | with_reducible rfl | (simp [e]; done) | rfl); (· simp [resAL, resA1, loadA, oneOr, e]))
theorem link_rises (l : List Lk) (hn : l.length ≤ 1000000) : Ct Try.prog 35 [slL l, .fn 36 [] []] [] (fun _ => bA (risesL l)) [] (fun _ => []) := (link_rises0 l hn).toCt cl cl
theorem fidx_no {α : Type} {p : α → Bool} {l : List α} (h : ∀ x ∈ l, p x = false) : l.findIdx p = l.length := List.findIdx_eq_length.2 h
/-- The first of some links that a function with one thing in mind takes. -/
theorem link_place0 (f : FuncId) (o : AObj) (ok : Lk → Bool) (ho : ∀ ρ, o.ren ρ = o) (hd : o ≠ .dead) (l : List Lk) (hf : ∀ x ∈ l, ∀ i, Ct Try.prog f [lkA x, .ref i 0] [(i, o)] (fun _ => bA (ok x)) [] (fun _ => [])) (hn : l.length ≤ 1000000) :
    Does Try.prog 39 [slL l, .fn f [] [.ref 0 0]] [o] (iA (l.findIdx ok)) [o] := by
  refine Does.runA Try.func39 b39 n39 Try.ntmps39 ?_; simp only [c39, go_sem, Nat.reduceAdd, Nat.reduceMul, Int.reduceToNat, Nat.reduceLeDiff, Int.reduceLE, Int.reduceLT, ↓reduceIte, Int.reduceBEq, Int.reduceBNe, Int.reduceAdd, Int.reduceSub, Int.reduceMul, lks_length]; try refine okTr_and rfl ?_
  refine loop_of (α := Nat) (fun k => [slL l, .fn f [] [.ref 0 0], .any, .any, .any, .any, .any, slL l, iA l.length, iA k, .any, .any, .any, .any, .any, .any, .any, .any, .any, .any, .any]) (fun _ => [o]) (fun k => k ≤ l.length ∧ ∀ i (h : i < l.length), i < k → ok l[i] = false) (fun k => l.length - k) 0 ⟨by simp, fun i _ hi => by omega⟩ (Wk.to (by simp) (by simp [leT])) ?_
  rintro k ⟨hk, hall⟩
  (simp only [go_sem, Nat.reduceAdd, Nat.reduceMul, Int.reduceToNat, Nat.reduceLeDiff, Int.reduceLE, Int.reduceLT, ↓reduceIte, Int.reduceBEq, Int.reduceBNe, Int.reduceAdd, Int.reduceSub, Int.reduceMul]; try refine okTr_and rfl ?_)
  by_cases hlt : k < l.length
  · have q1 : decide ((k : Int) < (l.length : Int)) = true := by simp; omega
    have ek := i64_succ k (by omega)
    have g := lks_get l k hlt
    have eg : l.getD k lk0 = l[k] := by simp [hlt]
    have hm := lk_mem l k hlt
    have hfx := hf _ hm 0
    rw [eg] at g hfx
    (simp only [go_sem, Nat.reduceAdd, Nat.reduceMul, Int.reduceToNat, Nat.reduceLeDiff, Int.reduceLE, Int.reduceLT, ↓reduceIte, Int.reduceBEq, Int.reduceBNe, Int.reduceAdd, Int.reduceSub, Int.reduceMul, q1, g, lks_length, Int.toNat_natCast]; try refine okTr_and rfl ?_)
    (repeat ((with_reducible refine And.intro ?_ ?_); (· exact sd)))
    refine CallK.r1 (hfx) rfl ?_
    by_cases hs : ok l[k] = true
    · have e : l.findIdx ok = k := by
        rw [List.findIdx_eq hlt]
        exact ⟨hs, fun j hj => hall j (by omega) hj⟩
      (simp only [go_sem, Nat.reduceAdd, Nat.reduceMul, Int.reduceToNat, Nat.reduceLeDiff, Int.reduceLE, Int.reduceLT, ↓reduceIte, Int.reduceBEq, Int.reduceBNe, Int.reduceAdd, Int.reduceSub, Int.reduceMul, hs]; try refine okTr_and rfl ?_)
      ((refine FinK.finB r39 [0] ?_ ?_); (· first | with_reducible rfl | (simp [e, ho]; done) | rfl); (· simp [resAL, resA1, loadA, oneOr, e, ho]))
    · have hs' : ok l[k] = false := by simpa using hs
      (simp only [go_sem, Nat.reduceAdd, Nat.reduceMul, Int.reduceToNat, Nat.reduceLeDiff, Int.reduceLE, Int.reduceLT, ↓reduceIte, Int.reduceBEq, Int.reduceBNe, Int.reduceAdd, Int.reduceSub, Int.reduceMul, hs', ek]; try refine okTr_and rfl ?_)
      exact ⟨k + 1, ⟨hlt, fun i h hi => by
        rcases Nat.lt_or_ge i k with h1 | h1
        · exact hall i h h1
        · obtain rfl : i = k := by omega
          exact hs'⟩, by omega, Wk.sel [0] (by simp) rfl (by simp) rfl (by simp [ho]) (by simp [selT, ixs_z])⟩
  · have q1 : decide ((k : Int) < (l.length : Int)) = false := by simp; omega
    have e : l.findIdx ok = l.length := fidx_no fun x hx => by
      obtain ⟨i, hi, rfl⟩ := List.getElem_of_mem hx
      exact hall i hi (by omega)
    (simp only [go_sem, Nat.reduceAdd, Nat.reduceMul, Int.reduceToNat, Nat.reduceLeDiff, Int.reduceLE, Int.reduceLT, ↓reduceIte, Int.reduceBEq, Int.reduceBNe, Int.reduceAdd, Int.reduceSub, Int.reduceMul, q1, lks_length]; try refine okTr_and rfl ?_)
    ((refine FinK.finB r39 [0] ?_ ?_); (· first | with_reducible rfl | (simp [e, ho]; done) | rfl); (· simp [resAL, resA1, loadA, oneOr, e, ho]))
theorem link_place (f : FuncId) (o : AObj) (ok : Lk → Bool) (ho : ∀ ρ, o.ren ρ = o) (hd : o ≠ .dead) (l : List Lk) (hf : ∀ x ∈ l, ∀ i, Ct Try.prog f [lkA x, .ref i 0] [(i, o)] (fun _ => bA (ok x)) [] (fun _ => [])) (hn : l.length ≤ 1000000) (i : Nat) :
    Ct Try.prog 39 [slL l, .fn f [] [.ref i 0]] [(i, o)] (fun _ => iA (l.findIdx ok)) [] (fun _ => []) := Ct.r1 (link_place0 f o ok ho hd l hf hn) i cl ho hd clo
abbrev oneO (x : Int) : AObj := .cells [uA x]
theorem link_Right10 (pos : Int) (x : Lk) (hx : x.ok) (p0 : 0 ≤ pos) (p1 : pos < 18446744073709551616) (hn : x.bk.length ≤ 1000000) : Does Try.prog 37 [lkA x, .ref 0 0] [oneO pos] (bA (!goodL pos x)) [oneO pos] := by
  refine Does.runA Try.func37 b37 n37 Try.ntmps37 ?_; simp only [c37, go_sem, Nat.reduceAdd, Nat.reduceMul, Int.reduceToNat, Nat.reduceLeDiff, Int.reduceLE, Int.reduceLT, ↓reduceIte, Int.reduceBEq, Int.reduceBNe, Int.reduceAdd, Int.reduceSub, Int.reduceMul, ints_length]; try refine okTr_and rfl ?_
  by_cases h4 : x.bk.length ≤ 4
  · have q1 : decide (4 < (x.bk.length : Int)) = false := by simp; omega
    have e : goodL pos x = falls pos x.bk := by unfold goodL; rw [decide_eq_true h4]; simp
    (simp only [go_sem, Nat.reduceAdd, Nat.reduceMul, Int.reduceToNat, Nat.reduceLeDiff, Int.reduceLE, Int.reduceLT, ↓reduceIte, Int.reduceBEq, Int.reduceBNe, Int.reduceAdd, Int.reduceSub, Int.reduceMul, q1]; try refine okTr_and rfl ?_)
    refine CallK.p (delta_Falls pos x.bk p0 p1 hx.b (by omega)) ?_; (simp only [go_sem, Nat.reduceAdd, Nat.reduceMul, Int.reduceToNat, Nat.reduceLeDiff, Int.reduceLE, Int.reduceLT, ↓reduceIte, Int.reduceBEq, Int.reduceBNe, Int.reduceAdd, Int.reduceSub, Int.reduceMul]; try refine okTr_and rfl ?_)
    ((refine FinK.finB r37 [0] ?_ ?_); (· first | with_reducible rfl | (simp [e]; done) | rfl); (· simp [resAL, resA1, loadA, oneOr, e]))
  · have q1 : decide (4 < (x.bk.length : Int)) = true := by simp; omega
    have e : goodL pos x = false := by unfold goodL; rw [decide_eq_false h4]; simp
    (simp only [go_sem, Nat.reduceAdd, Nat.reduceMul, Int.reduceToNat, Nat.reduceLeDiff, Int.reduceLE, Int.reduceLT, ↓reduceIte, Int.reduceBEq, Int.reduceBNe, Int.reduceAdd, Int.reduceSub, Int.reduceMul, q1]; try refine okTr_and rfl ?_)
    ((refine FinK.finB r37 [0] ?_ ?_); (· first | with_reducible rfl | (simp [e]; done) | rfl); (· simp [resAL, resA1, loadA, oneOr, e]))
theorem link_Right1 (pos : Int) (x : Lk) (hx : x.ok) (p0 : 0 ≤ pos) (p1 : pos < 18446744073709551616) (hn : x.bk.length ≤ 1000000) (i : Nat) : Ct Try.prog 37 [lkA x, .ref i 0] [(i, oneO pos)] (fun _ => bA (!goodL pos x)) [] (fun _ => []) :=
  Ct.r1 (link_Right10 pos x hx p0 p1 hn) i cl (fun ρ => by simp [ixs_z]) (by simp) clo
def Smalls (l : List Lk) : Prop := l.length ≤ 1000000 ∧ ∀ x ∈ l, x.bk.length ≤ 1000000
theorem link_Right0 (pos : Int) (l : List Lk) (hl : Lks l) (hm : Smalls l) (p0 : 0 ≤ pos) (p1 : pos < 18446744073709551616) : Does Try.prog 15 [uA pos, slL l] [] (bA (rightL pos l)) [] := by
  obtain ⟨hn, hb⟩ := hm
  refine Does.runA Try.func15 b15 n15 Try.ntmps15 ?_; simp only [c15, go_sem, Nat.reduceAdd, Nat.reduceMul, Int.reduceToNat, Nat.reduceLeDiff, Int.reduceLE, Int.reduceLT, ↓reduceIte, Int.reduceBEq, Int.reduceBNe, Int.reduceAdd, Int.reduceSub, Int.reduceMul, lks_length]; try refine okTr_and rfl ?_
  by_cases h16 : l.length ≤ 16
  · have q1 : decide (16 < (l.length : Int)) = false := by simp; omega
    (simp only [go_sem, Nat.reduceAdd, Nat.reduceMul, Int.reduceToNat, Nat.reduceLeDiff, Int.reduceLE, Int.reduceLT, ↓reduceIte, Int.reduceBEq, Int.reduceBNe, Int.reduceAdd, Int.reduceSub, Int.reduceMul, q1]; try refine okTr_and rfl ?_)
    refine CallK.p (link_rises l hn) ?_
    by_cases hr : risesL l = true
    · have he : rightL pos l = ((l.findIdx fun x => !goodL pos x : Nat) == l.length) := by
        rw [Bool.eq_iff_iff, rightL_iff, beq_iff_eq, List.findIdx_eq_length]
        simp [h16, hr]
      have he2 : (((l.findIdx fun x => !goodL pos x : Nat) : Int) == (l.length : Int)) = rightL pos l := by
        rw [he, Bool.eq_iff_iff, beq_iff_eq, beq_iff_eq]; omega
      (simp only [go_sem, Nat.reduceAdd, Nat.reduceMul, Int.reduceToNat, Nat.reduceLeDiff, Int.reduceLE, Int.reduceLT, ↓reduceIte, Int.reduceBEq, Int.reduceBNe, Int.reduceAdd, Int.reduceSub, Int.reduceMul, hr]; try refine okTr_and rfl ?_)
      refine CallK.r1 (link_place 37 (oneO pos) (fun x => !goodL pos x) (fun ρ => by simp [ixs_z]) (by simp) l (fun x hx i => link_Right1 pos x (hl x hx) p0 p1 (hb x hx) i) hn _) rfl ?_; (simp only [go_sem, Nat.reduceAdd, Nat.reduceMul, Int.reduceToNat, Nat.reduceLeDiff, Int.reduceLE, Int.reduceLT, ↓reduceIte, Int.reduceBEq, Int.reduceBNe, Int.reduceAdd, Int.reduceSub, Int.reduceMul, lks_length, he2]; try refine okTr_and rfl ?_)
      exact FinK.finA r15 []
    · have hr' : risesL l = false := by simpa using hr
      have he : rightL pos l = false := by simp [rightL, hr']
      (simp only [go_sem, Nat.reduceAdd, Nat.reduceMul, Int.reduceToNat, Nat.reduceLeDiff, Int.reduceLE, Int.reduceLT, ↓reduceIte, Int.reduceBEq, Int.reduceBNe, Int.reduceAdd, Int.reduceSub, Int.reduceMul, hr']; try refine okTr_and rfl ?_)
      ((refine FinK.finB r15 [] ?_ ?_); (· first | with_reducible rfl | (simp [he]; done) | rfl); (· simp [resAL, resA1, loadA, oneOr, he]))
  · have q1 : decide (16 < (l.length : Int)) = true := by simp; omega
    have he : rightL pos l = false := by simp [rightL, h16]
    (simp only [go_sem, Nat.reduceAdd, Nat.reduceMul, Int.reduceToNat, Nat.reduceLeDiff, Int.reduceLE, Int.reduceLT, ↓reduceIte, Int.reduceBEq, Int.reduceBNe, Int.reduceAdd, Int.reduceSub, Int.reduceMul, q1]; try refine okTr_and rfl ?_)
    ((refine FinK.finB r15 [] ?_ ?_); (· first | with_reducible rfl | (simp [he]; done) | rfl); (· simp [resAL, resA1, loadA, oneOr, he]))
theorem link_Right (pos : Int) (l : List Lk) (hl : Lks l) (hm : Smalls l) (p0 : 0 ≤ pos) (p1 : pos < 18446744073709551616) : Ct Try.prog 15 [uA pos, slL l] [] (fun _ => bA (rightL pos l)) [] (fun _ => []) := (link_Right0 pos l hl hm p0 p1).toCt cl cl
/-- By how much a stream is above the one ahead. -/
def stpL (l : List Lk) (i : Nat) : Int := (l.getD i lk0).st - lst (l.take i) - 1
def stpsL (l : List Lk) (k : Nat) : List Int := (List.range k).map (stpL l)
theorem stpsL_succ (l : List Lk) (k : Nat) : stpsL l (k + 1) = stpsL l k ++ [stpL l k] := by simp [stpsL, List.range_succ]
theorem stpsL_len (l : List Lk) (k : Nat) : (stpsL l k).length = k := by simp [stpsL]
theorem stpsL_get (l : List Lk) (n k : Nat) (h : k < n) : (stpsL l n).getD k 0 = stpL l k := by simp [stpsL, h]
theorem stpL_range {l : List Lk} (hl : Lks l) (hr : risesL l = true) {i : Nat} (hi : i < l.length) : 0 ≤ stpL l i ∧ stpL l i < 18446744073709551616 := by
  have ho := hl _ (lk_mem l i hi)
  have h0 := ho.s0
  have h1 := ho.s1
  unfold stpL
  rw [lst_take l i (by omega)]
  split
  · omega
  · rename_i hz
    have := risesL_iff.1 hr i hi (by omega)
    have hp := (hl _ (lk_mem l (i - 1) (by omega))).s0
    omega
set_option maxRecDepth 100000 in
theorem link_steps0 (l : List Lk) (hl : Lks l) (hr : risesL l = true) (hn : l.length ≤ 1000000) : Does Try.prog 52 [slL l] [] (slU (stpsL l l.length)) [] := by
  refine Does.runA Try.func52 b52 n52 Try.ntmps52 ?_; simp only [c52, go_sem, Nat.reduceAdd, Nat.reduceMul, Int.reduceToNat, Nat.reduceLeDiff, Int.reduceLE, Int.reduceLT, ↓reduceIte, Int.reduceBEq, Int.reduceBNe, Int.reduceAdd, Int.reduceSub, Int.reduceMul, lks_length]; try refine okTr_and rfl ?_
  refine loop_of (α := Nat) (fun k => [slL l, .any, .any, .sl (.row 0) 1 (ints .u64 (stpsL l k)), .any, .any, .any, slL l, iA l.length, iA k, .any, .any, .any, .any, .any, .any, .any, .any, .any, .any, .any, .any, .any, .any, .any, .any, .any, .any, .any, .any, .any, .any, .any]) (fun k => [.row 1 k]) (fun k => k ≤ l.length) (fun k => l.length - k) 0 (by simp) ((Wk.row 3 1 rfl (.inl rfl) (by decide)).trans (Wk.to (by simp) (by simp [leT, ints, stpsL]))) ?_
  intro k hk
  have hkl := stpsL_len l k
  (simp only [go_sem, Nat.reduceAdd, Nat.reduceMul, Int.reduceToNat, Nat.reduceLeDiff, Int.reduceLE, Int.reduceLT, ↓reduceIte, Int.reduceBEq, Int.reduceBNe, Int.reduceAdd, Int.reduceSub, Int.reduceMul]; try refine okTr_and rfl ?_)
  by_cases hlt : k < l.length
  · have q1 : decide ((k : Int) < (l.length : Int)) = true := by simp; omega
    have ek := i64_succ k (by omega)
    have g := lks_get l k hlt
    have ho := hl _ (lk_mem l k hlt)
    have hs := stpL_range hl hr hlt
    have hss := stpsL_succ l k
    have est : stpL l k = if k = 0 then (l.getD k lk0).st else (l.getD k lk0).st - (l.getD (k - 1) lk0).st - 1 := by
      unfold stpL
      rw [lst_take l k (by omega)]
      split
      · omega
      · rfl
    by_cases h0 : 0 < k
    · have q2 : decide ((0 : Int) < (k : Int)) = true := by simp; omega
      rw [if_neg (by omega)] at est
      have ep := i64_pred k h0 (by omega)
      have g2 := lks_get l (k - 1) (by omega)
      have hp := hl _ (lk_mem l (k - 1) (by omega))
      have hp0 := hp.s0
      have ho1 := ho.s1
      have w1 : IntKind.u64.wrap ((l.getD (k - 1) lk0).st + 1) = (l.getD (k - 1) lk0).st + 1 := IntWalk.u64_in _ (by omega)
      have w2 : IntKind.u64.wrap ((l.getD k lk0).st - ((l.getD (k - 1) lk0).st + 1)) = stpL l k := by rw [IntWalk.u64_in _ (by omega)]; omega
      (simp only [go_sem, Nat.reduceAdd, Nat.reduceMul, Int.reduceToNat, Nat.reduceLeDiff, Int.reduceLE, Int.reduceLT, ↓reduceIte, Int.reduceBEq, Int.reduceBNe, Int.reduceAdd, Int.reduceSub, Int.reduceMul, q1, q2, g, g2, ep, w1, w2, lks_length, Int.toNat_natCast]; try refine okTr_and rfl ?_)
      (repeat ((with_reducible refine And.intro ?_ ?_); (· exact sd)))
      (simp only [go_sem, Nat.reduceAdd, Nat.reduceMul, Int.reduceToNat, Nat.reduceLeDiff, Int.reduceLE, Int.reduceLT, ↓reduceIte, Int.reduceBEq, Int.reduceBNe, Int.reduceAdd, Int.reduceSub, Int.reduceMul, ints_snoc, ← hss, ints_length, hkl, ek]; try refine okTr_and rfl ?_)
      (repeat ((with_reducible refine And.intro ?_ ?_); (· exact sd)))
      exact ⟨k + 1, by omega, by omega, Wk.sel [0] (by simp) rfl (by simp) rfl (by simp [ixs_z]) (by simp [selT, ixs_z])⟩
    · have q2 : decide ((0 : Int) < (k : Int)) = false := by simp; omega
      rw [if_pos (by omega)] at est
      (simp only [go_sem, Nat.reduceAdd, Nat.reduceMul, Int.reduceToNat, Nat.reduceLeDiff, Int.reduceLE, Int.reduceLT, ↓reduceIte, Int.reduceBEq, Int.reduceBNe, Int.reduceAdd, Int.reduceSub, Int.reduceMul, q1, q2, g, ← est, ints_snoc, ← hss, ints_length, hkl, ek, lks_length, Int.toNat_natCast]; try refine okTr_and rfl ?_)
      (repeat ((with_reducible refine And.intro ?_ ?_); (· exact sd)))
      exact ⟨k + 1, by omega, by omega, Wk.sel [0] (by simp) rfl (by simp) rfl (by simp [ixs_z]) (by simp [selT, ixs_z])⟩
  · have q1 : decide ((k : Int) < (l.length : Int)) = false := by simp; omega
    have ek : k = l.length := by omega
    (simp only [go_sem, Nat.reduceAdd, Nat.reduceMul, Int.reduceToNat, Nat.reduceLeDiff, Int.reduceLE, Int.reduceLT, ↓reduceIte, Int.reduceBEq, Int.reduceBNe, Int.reduceAdd, Int.reduceSub, Int.reduceMul, q1]; try refine okTr_and rfl ?_)
    (refine FinK.untag 2 rfl ?_; simp only [untag1_sl, List.set_cons_zero, List.set_cons_succ])
    ((refine FinK.finB r52 [] ?_ ?_); (· first | with_reducible rfl | (simp [ek]; done) | rfl); (· simp [resAL, resA1, loadA, oneOr, ek]))
theorem link_steps (l : List Lk) (hl : Lks l) (hr : risesL l = true) (hn : l.length ≤ 1000000) : Ct Try.prog 52 [slL l] [] (fun _ => slU (stpsL l l.length)) [] (fun _ => []) := (link_steps0 l hl hr hn).toCt cl cl
/-- A writer behind the first k links. -/
def WS.lkN (s : WS) (pos : Int) (l : List Lk) : Nat → WS
  | 0 => s.put (vb l.length)
  | k + 1 => ((s.lkN pos l k).put (vb (stpL l k))).fall pos (l.getD k lk0).bk
def WS.links (s : WS) (pos : Int) (l : List Lk) : WS := if rightL pos l = true then s.lkN pos l l.length else s.fail 3
theorem WS.fine.fall {s : WS} (h : s.fine) (b : Int) (l : List Int) : (s.fall b l).fine := by
  unfold WS.fall
  split
  · exact (h.put _).puts _
  · exact h.fail 3
theorem WS.fine.lkN {s : WS} (h : s.fine) (pos : Int) (l : List Lk) : ∀ k, (s.lkN pos l k).fine := by
  intro k
  induction k with
  | zero => exact h.put _
  | succ k ih => exact (ih.put _).fall _ _
theorem WS.fine.links {s : WS} (h : s.fine) (pos : Int) (l : List Lk) : (s.links pos l).fine := by
  unfold WS.links; split
  · exact h.lkN pos l _
  · exact h.fail 3
set_option maxRecDepth 100000 in
theorem link_Put0 (s : WS) (pos : Int) (l : List Lk) (hs : s.fine) (hl : Lks l) (hm : Smalls l) (p0 : 0 ≤ pos) (p1 : pos < 18446744073709551616) : Does Try.prog 33 [.ref 0 0, uA pos, slL l] [wob 1 s, wrow s] (.tup []) [wob 1 (s.links pos l), wrow (s.links pos l)] := by
  have hn := hm.1
  have e := len_u64 l (by omega)
  refine Does.runA Try.func33 b33 n33 Try.ntmps33 ?_; simp only [c33, go_sem, Nat.reduceAdd, Nat.reduceMul, Int.reduceToNat, Nat.reduceLeDiff, Int.reduceLE, Int.reduceLT, ↓reduceIte, Int.reduceBEq, Int.reduceBNe, Int.reduceAdd, Int.reduceSub, Int.reduceMul]; try refine okTr_and rfl ?_
  refine CallK.p (link_Right pos l hl hm p0 p1) ?_
  by_cases hr : rightL pos l = true
  · obtain ⟨r1, r2, r3⟩ := rightL_iff.1 hr
    (simp only [go_sem, Nat.reduceAdd, Nat.reduceMul, Int.reduceToNat, Nat.reduceLeDiff, Int.reduceLE, Int.reduceLT, ↓reduceIte, Int.reduceBEq, Int.reduceBNe, Int.reduceAdd, Int.reduceSub, Int.reduceMul, hr, lks_length, e]; try refine okTr_and rfl ?_)
    refine CallK.u2 (varint_Put s l.length 0 1 (by decide) (by omega) (by omega) hs.ok (hs.room _)) rfl rfl ?_; (simp only [go_sem, Nat.reduceAdd, Nat.reduceMul, Int.reduceToNat, Nat.reduceLeDiff, Int.reduceLE, Int.reduceLT, ↓reduceIte, Int.reduceBEq, Int.reduceBNe, Int.reduceAdd, Int.reduceSub, Int.reduceMul]; try refine okTr_and rfl ?_)
    refine CallK.p (link_steps l hl r2 hn) ?_; (simp only [go_sem, Nat.reduceAdd, Nat.reduceMul, Int.reduceToNat, Nat.reduceLeDiff, Int.reduceLE, Int.reduceLT, ↓reduceIte, Int.reduceBEq, Int.reduceBNe, Int.reduceAdd, Int.reduceSub, Int.reduceMul, ints_length, stpsL_len]; try refine okTr_and rfl ?_)
    refine loop_of (α := Nat) (fun k => [.ref 0 0, uA pos, slL l, .any, .any, .any, .any, .any, .any, .any, .any, .any, .any, .any, .any, .any, .any, .any, .any, .any, slU (stpsL l l.length), iA l.length, iA k, .any, .any, .any, .any, .any, .any, .any, .any, .any, .any, .any, .any, .any, .any, .any, .any]) (fun k => [wob 1 (s.lkN pos l k), wrow (s.lkN pos l k)]) (fun k => k ≤ l.length) (fun k => l.length - k) 0 (by simp) (Wk.to (by rfl) (by simp [leT])) ?_
    intro k hk
    have hf := hs.lkN pos l k
    (simp only [go_sem, Nat.reduceAdd, Nat.reduceMul, Int.reduceToNat, Nat.reduceLeDiff, Int.reduceLE, Int.reduceLT, ↓reduceIte, Int.reduceBEq, Int.reduceBNe, Int.reduceAdd, Int.reduceSub, Int.reduceMul]; try refine okTr_and rfl ?_)
    by_cases hlt : k < l.length
    · have q1 : decide ((k : Int) < (l.length : Int)) = true := by simp; omega
      have ek := i64_succ k (by omega)
      have g := lks_get l k hlt
      have g2 := u64_get (stpsL l l.length) k (by rw [stpsL_len]; exact hlt)
      rw [stpsL_get l _ k hlt, Int.toNat_natCast] at g2
      have hx := stpL_range hl r2 hlt
      have ho := hl _ (lk_mem l k hlt)
      have hsm := hm.2 _ (lk_mem l k hlt)
      (simp only [go_sem, Nat.reduceAdd, Nat.reduceMul, Int.reduceToNat, Nat.reduceLeDiff, Int.reduceLE, Int.reduceLT, ↓reduceIte, Int.reduceBEq, Int.reduceBNe, Int.reduceAdd, Int.reduceSub, Int.reduceMul, q1, g2, ints_length, stpsL_len, Int.toNat_natCast]; try refine okTr_and rfl ?_)
      (repeat ((with_reducible refine And.intro ?_ ?_); (· exact sd)))
      refine CallK.u2 (varint_Put (s.lkN pos l k) (stpL l k) 0 1 (by decide) hx.1 hx.2 hf.ok (hf.room _)) rfl rfl ?_; (simp only [go_sem, Nat.reduceAdd, Nat.reduceMul, Int.reduceToNat, Nat.reduceLeDiff, Int.reduceLE, Int.reduceLT, ↓reduceIte, Int.reduceBEq, Int.reduceBNe, Int.reduceAdd, Int.reduceSub, Int.reduceMul, g, lks_length, Int.toNat_natCast]; try refine okTr_and rfl ?_)
      (repeat ((with_reducible refine And.intro ?_ ?_); (· exact sd)))
      refine CallK.u2 (delta_Put ((s.lkN pos l k).put (vb (stpL l k))) pos (l.getD k lk0).bk 0 1 (by decide) (hf.put _) p0 p1 ho.b (by omega)) rfl rfl ?_; (simp only [go_sem, Nat.reduceAdd, Nat.reduceMul, Int.reduceToNat, Nat.reduceLeDiff, Int.reduceLE, Int.reduceLT, ↓reduceIte, Int.reduceBEq, Int.reduceBNe, Int.reduceAdd, Int.reduceSub, Int.reduceMul, ek]; try refine okTr_and rfl ?_)
      exact ⟨k + 1, by omega, by omega, Wk.to (by rfl) (by simp [leT])⟩
    · have q1 : decide ((k : Int) < (l.length : Int)) = false := by simp; omega
      have ek : k = l.length := by omega
      subst ek
      (simp only [go_sem, Nat.reduceAdd, Nat.reduceMul, Int.reduceToNat, Nat.reduceLeDiff, Int.reduceLE, Int.reduceLT, ↓reduceIte, Int.reduceBEq, Int.reduceBNe, Int.reduceAdd, Int.reduceSub, Int.reduceMul, q1]; try refine okTr_and rfl ?_)
      ((refine FinK.finB r33 [0, 1] ?_ ?_); (· first | with_reducible rfl | (simp [WS.links, hr]; done) | rfl); (· simp [resAL, resA1, loadA, oneOr, WS.links, hr]))
  · have hr' : rightL pos l = false := by simpa using hr
    (simp only [go_sem, Nat.reduceAdd, Nat.reduceMul, Int.reduceToNat, Nat.reduceLeDiff, Int.reduceLE, Int.reduceLT, ↓reduceIte, Int.reduceBEq, Int.reduceBNe, Int.reduceAdd, Int.reduceSub, Int.reduceMul, hr']; try refine okTr_and rfl ?_)
    refine CallK.u2 (Writer_Fail s 3 0 1 (by decide)) rfl rfl ?_; (simp only [go_sem, Nat.reduceAdd, Nat.reduceMul, Int.reduceToNat, Nat.reduceLeDiff, Int.reduceLE, Int.reduceLT, ↓reduceIte, Int.reduceBEq, Int.reduceBNe, Int.reduceAdd, Int.reduceSub, Int.reduceMul]; try refine okTr_and rfl ?_)
    ((refine FinK.finB r33 [0, 1] ?_ ?_); (· first | with_reducible rfl | (simp [WS.links, hr']; done) | rfl); (· simp [resAL, resA1, loadA, oneOr, WS.links, hr']))
theorem link_Put (s : WS) (pos : Int) (l : List Lk) (i j : Nat) (h : i ≠ j) (hs : s.fine) (hl : Lks l) (hm : Smalls l) (p0 : 0 ≤ pos) (p1 : pos < 18446744073709551616) : Ct Try.prog 33 [.ref i 0, uA pos, slL l] [(i, wob j s), (j, wrow s)] (fun _ => .tup []) [(i, wob j (s.links pos l)), (j, wrow (s.links pos l))] (fun _ => []) := Ct.u2 (link_Put0 s pos l hs hl hm p0 p1) i j h cl cl cl cl cl (wob_dead _ _) (wrow_dead _) clo
end Go.Proofs.Ytnfagphepkeedaa
end
section
namespace Go.Proofs.Ytnfagphepkeedaa
open Go.RowKit

end Go.Proofs.Ytnfagphepkeedaa
end
section
namespace Go.Proofs.Ytnfagphepkeedaa
open Go.RowKit

section
variable {P : Program} {f : FuncId} {args args₀ : List AV} {S : List AObj} {K : KT}
/-- A row that is given, and grows. -/
theorem Ct.o1 {o o' : AObj} {r₀ r : AV} (h : Does P f args₀ [o] r₀ [o']) (i : Nat) (ha : ∀ N, args₀.map (fun x => x.ren (ixs [i] N)) = args) (ho : ∀ ρ, o.ren ρ = o) (ho' : ∀ ρ, o'.ren ρ = o') (hd : o ≠ .dead) (hr : ∀ N, r₀.ren (ixs [i] N) = r) :
    Ct P f args [(i, o)] (fun _ => r) [(i, o')] (fun _ => []) :=
  Ct.mk h [i] (by simp) rfl (by simp) (by simpa using hd) (fun n N => ha N) (fun n N => by simpa using hr N) (fun n N => by simp [ho]) (.inl fun n N => by simp [ho']) (fun n N => rfl)
theorem CallK.o1 {r : AV} {i : Nat} {o o' : AObj} (h : Ct P f args [(i, o)] (fun _ => r) [(i, o')] (fun _ => [])) (hS : S[i]? = some o) (hK : K r [i] [(i, o')] []) : CallK P f args S K := CallK.of h (by simpa using hS) (by simp) hK
end
section
variable {P : Program} {f : FuncId} {args args' : List AV} {S : List AObj} {K : KT}
end
section
variable {P : Program} {f : FuncId} {args args' : List AV} {S : List AObj} {K : KT} {m : Nat} {fn : Func}
end
/-- One value told less exactly than another: whose its slices are is forgotten, an empty slice is one of anything. -/
structure Wa (x y : AV) : Prop where
  len : x.cells.length = y.cells.length
  val : ∀ (G : Gh) (v : Value), Rep G x v → Rep G y v
  cel : ∀ (j : Nat) (a b : AV), x.cells[j]? = some a → y.cells[j]? = some b → ∀ (G : Gh) (v : Value), Rep G a v → Rep G b v
def WaL (xs ys : List AV) : Prop := xs.length = ys.length ∧ ∀ (j : Nat) (x y : AV), xs[j]? = some x → ys[j]? = some y → Wa x y
theorem Wa.refl (x : AV) : Wa x x := ⟨rfl, fun _ _ r => r, fun j a b ha hb G v r => by rw [ha] at hb; injection hb with hb; subst hb; exact r⟩
theorem WaL.nil : WaL [] [] := ⟨rfl, fun j x y h => by simp at h⟩
theorem WaL.cons {x y : AV} {xs ys : List AV} (h : Wa x y) (k : WaL xs ys) : WaL (x :: xs) (y :: ys) := by
  refine ⟨by simp [k.1], fun j a b ha hb => ?_⟩
  cases j with
  | zero => simp at ha hb; subst ha hb; exact h
  | succ j => simp at ha hb; exact k.2 j a b ha hb
theorem WaL.refl (xs : List AV) : WaL xs xs := ⟨rfl, fun j x y hx hy => by rw [hx] at hy; injection hy with hy; subst hy; exact .refl _⟩
theorem WaL.map {α : Type} {f g : α → AV} (h : ∀ x, Wa (f x) (g x)) (l : List α) : WaL (l.map f) (l.map g) := ⟨by simp, fun j x y hx hy => by
  obtain ⟨a, ha, rfl⟩ := map_get hx
  obtain ⟨b, hb, rfl⟩ := map_get hy
  rw [ha] at hb; injection hb with hb; subst hb; exact h a⟩
theorem WaL.app {xs ys xs' ys' : List AV} (h : WaL xs ys) (k : WaL xs' ys') : WaL (xs ++ xs') (ys ++ ys') := by
  refine ⟨by simp [h.1, k.1], fun j x y hx hy => ?_⟩
  rw [List.getElem?_append] at hx hy
  rw [h.1] at hx
  split at hx
  · rename_i hl; rw [if_pos hl] at hy; exact h.2 j x y hx hy
  · rename_i hl; rw [if_neg hl] at hy; exact k.2 _ x y hx hy
theorem one_cel {x y : AV} (hx : x.cells = [x]) (hy : y.cells = [y]) (h : ∀ (G : Gh) (v : Value), Rep G x v → Rep G y v) : Wa x y := by
  refine ⟨by rw [hx, hy]; rfl, h, fun j a b ha hb G v r => ?_⟩
  rw [hx] at ha
  rw [hy] at hb
  cases j with
  | zero => simp at ha hb; subst ha hb; exact h G v r
  | succ j => simp at ha
theorem Wa.sl {t t' : Tag} {k k' : Nat} {xs ys : List AV} (ht : t' = .none ∨ t' = t) (hk : k = k' ∨ xs = []) (hw : WaL xs ys) : Wa (.sl t k xs) (.sl t' k' ys) := by
  obtain ⟨hl, h⟩ := hw
  refine one_cel rfl rfl fun G v r => ?_
  cases r with
  | @sl _ _ _ A c b o vs hc hA hk1 h1 h2 h3 ht1 =>
    have htag : TagOk G t' A ys.length c := by
      rcases ht with rfl | rfl
      · trivial
      · rw [← hl]; exact ht1
    have main : Rep G (.sl t' k' ys) (.slice A ys.length c) := by
      rcases hk with rfl | rfl
      · refine .sl (b := b) (o := o) vs (by rw [← hl]; exact hc) (by rw [← hl]; exact hA) (fun i y hy => ?_) (by rw [← hl]; exact h1) (by rw [← hl]; exact h2) (fun i j y z hy hz => ?_) htag
        · have hi : i < xs.length := by rw [hl]; exact (List.getElem?_eq_some_iff.1 hy).1
          have hx := List.getElem?_eq_getElem hi
          rw [← (h i _ y hx hy).len]; exact hk1 i _ hx
        · have hi : i < xs.length := by rw [hl]; exact (List.getElem?_eq_some_iff.1 hy).1
          have hx := List.getElem?_eq_getElem hi
          have hw := h i _ y hx hy
          have hj : j < xs[i].cells.length := by rw [hw.len]; exact (List.getElem?_eq_some_iff.1 hz).1
          have hu := List.getElem?_eq_getElem hj
          exact hw.cel j _ z hu hz G _ (h3 i j _ _ hx hu)
      · obtain rfl : ys = [] := List.eq_nil_of_length_eq_zero (by rw [← hl]; rfl)
        exact .sl (b := b) (o := o) vs (by simp) (by simp) (by simp) (by simp) (by simp) (by simp) htag
    rw [← hl] at main; exact main
theorem Wa.agg {xs ys : List AV} (hw : WaL xs ys) : Wa (.agg xs) (.agg ys) := by
  obtain ⟨hl, h⟩ := hw
  refine ⟨hl, fun G v r => ?_, fun j a b ha hb G v r => (h j a b ha hb).val G v r⟩
  cases r with
  | @agg _ vs h0 h2 h3 =>
    refine .agg (by rw [← hl]; exact h0) h2 fun j y v hy hv => ?_
    have hj : j < xs.length := by rw [hl]; exact (List.getElem?_eq_some_iff.1 hy).1
    have hx := List.getElem?_eq_getElem hj
    exact (h j _ y hx hy).val G v (h3 j _ v hx hv)
theorem Wa.tup {xs ys : List AV} (hw : WaL xs ys) : Wa (.tup xs) (.tup ys) := by
  obtain ⟨hl, h⟩ := hw
  refine one_cel rfl rfl fun G v r => ?_
  cases r with
  | @tup _ vs h0 h3 =>
    refine .tup (by rw [← hl]; exact h0) fun j y v hy hv => ?_
    have hj : j < xs.length := by rw [hl]; exact (List.getElem?_eq_some_iff.1 hy).1
    have hx := List.getElem?_eq_getElem hj
    exact (h j _ y hx hy).val G v (h3 j _ v hx hv)
theorem Wa.slN {t : Tag} {k : Nat} {xs ys : List AV} (h : WaL xs ys) : Wa (.sl t k xs) (.sl .none k ys) := .sl (.inl rfl) (.inl rfl) h
theorem Wa.slS {t : Tag} {k : Nat} {xs ys : List AV} (h : WaL xs ys) : Wa (.sl t k xs) (.sl t k ys) := .sl (.inr rfl) (.inl rfl) h
theorem Wa.none {t : Tag} {k : Nat} {xs : List AV} : Wa (.sl t k xs) (.sl .none k xs) := .slN (WaL.refl xs)
theorem Wa.slc {t : Tag} {k : Nat} {xs : List AV} : Wa (.sl t k xs) (.slc k xs) := one_cel rfl rfl fun G v r => .slc ((Wa.none (t := t)).val G v r)
theorem Wa.nil {t : Tag} {k k' : Nat} : Wa (.sl t k []) (.sl .none k' []) := .sl (.inl rfl) (.inr rfl) WaL.nil
section
variable {P : Program} {f : FuncId} {args args' : List AV} {S : List AObj} {m : Nat} {fn : Func} {tm : List AV}
theorem Ct.weak {rd : List (Nat × AObj)} {r : Nat → AV} {upd : List (Nat × AObj)} {new : Nat → List AObj} (h : Ct P f args' rd r upd new) (he : WaL args args') : Ct P f args rd r upd new := fun T n h1 h2 => by
  have hd := h T n h1 h2
  refine ⟨hd.1, fun G w vs hw hr => hd.2 G w vs hw ⟨by rw [← he.1]; exact hr.1, fun j y v hy hv => ?_⟩⟩
  have hj : j < args.length := by rw [he.1]; exact (List.getElem?_eq_some_iff.1 hy).1
  have hx := List.getElem?_eq_getElem hj
  exact (he.2 j _ y hx hy).val G v (hr.2 j _ v hx hv)
theorem Wk.wa (t : Nat) {x y : AV} (ht : tm[t]? = some x) (h : Wa x y) : Wk m tm S (tm.set t y) S := fun G0 S0 w0 G a w _ hz => by
  have htl := (List.getElem?_eq_some_iff.1 ht).1
  refine ⟨G, hz.left, by simp [hz.size], fun t' z u hx hu => ?_, hz.defers, hz.wd0⟩
  by_cases et : t' = t
  · subst et
    simp [htl] at hx; subst hx
    exact h.val _ _ (hz.rep t' x u ht hu)
  · rw [List.getElem?_set_ne (Ne.symm et)] at hx
    exact hz.rep t' z u hx hu
theorem FinK.wa {S' : List AObj} {r : AV} (t : Nat) {x y : AV} (ht : tm[t]? = some x) (h : Wa x y) (k : FinK P m fn (tm.set t y) S r S') : FinK P m fn tm S r S' := FinK.wk (Wk.wa t ht h) k
end
end Go.Proofs.Ytnfagphepkeedaa
end
section
namespace Go.Proofs.Ytnfagphepkeedaa
open Go.RowKit

theorem ref23_One0 (x y : Lk) (hn : x.bk.length ≤ 1000000) : Does Try.prog 20 [lkA x, lkA y] [] (bA (decide (x = y))) [] := by
  refine Does.runA Try.func20 b20 n20 Try.ntmps20 ?_; simp only [c20, go_sem, Nat.reduceAdd, Nat.reduceMul, Int.reduceToNat, Nat.reduceLeDiff, Int.reduceLE, Int.reduceLT, ↓reduceIte, Int.reduceBEq, Int.reduceBNe, Int.reduceAdd, Int.reduceSub, Int.reduceMul]; try refine okTr_and rfl ?_
  by_cases c0 : x.st = y.st
  · have q0 : (x.st == y.st) = true := by simpa using c0
    have e : sameB x.bk y.bk = decide (x = y) := by
      unfold sameB
      rw [Bool.eq_iff_iff, decide_eq_true_eq, decide_eq_true_eq]
      cases x; cases y; simp only at c0; simp [c0]
    (simp only [go_sem, Nat.reduceAdd, Nat.reduceMul, Int.reduceToNat, Nat.reduceLeDiff, Int.reduceLE, Int.reduceLT, ↓reduceIte, Int.reduceBEq, Int.reduceBNe, Int.reduceAdd, Int.reduceSub, Int.reduceMul, q0]; try refine okTr_and rfl ?_)
    refine CallK.p (ref05_Same x.bk y.bk (by omega)) ?_; (simp only [go_sem, Nat.reduceAdd, Nat.reduceMul, Int.reduceToNat, Nat.reduceLeDiff, Int.reduceLE, Int.reduceLT, ↓reduceIte, Int.reduceBEq, Int.reduceBNe, Int.reduceAdd, Int.reduceSub, Int.reduceMul]; try refine okTr_and rfl ?_)
    ((refine FinK.finB r20 [] ?_ ?_); (· first | with_reducible rfl | (simp [e]; done) | rfl); (· simp [resAL, resA1, loadA, oneOr, e]))
  · have q0 : (x.st == y.st) = false := by simpa using c0
    have e : decide (x = y) = false := by simp only [decide_eq_false_iff_not]; rintro rfl; exact c0 rfl
    (simp only [go_sem, Nat.reduceAdd, Nat.reduceMul, Int.reduceToNat, Nat.reduceLeDiff, Int.reduceLE, Int.reduceLT, ↓reduceIte, Int.reduceBEq, Int.reduceBNe, Int.reduceAdd, Int.reduceSub, Int.reduceMul, q0]; try refine okTr_and rfl ?_)
    ((refine FinK.finB r20 [] ?_ ?_); (· first | with_reducible rfl | (simp [e]; done) | rfl); (· simp [resAL, resA1, loadA, oneOr, e]))
theorem ref23_One (x y : Lk) (hn : x.bk.length ≤ 1000000) : Ct Try.prog 20 [lkA x, lkA y] [] (fun _ => bA (decide (x = y))) [] (fun _ => []) := (ref23_One0 x y hn).toCt cl cl
def sameL (l m : List Lk) : Bool := decide (l = m)
theorem sameL_self (l : List Lk) : sameL l l = true := by simp [sameL]
set_option maxRecDepth 100000 in
theorem ref23_Same0 (l m : List Lk) (hm : Smalls l) : Does Try.prog 22 [slL l, slL m] [] (bA (sameL l m)) [] := by
  obtain ⟨hn, hb⟩ := hm
  refine Does.runA Try.func22 b22 n22 Try.ntmps22 ?_; simp only [c22, go_sem, Nat.reduceAdd, Nat.reduceMul, Int.reduceToNat, Nat.reduceLeDiff, Int.reduceLE, Int.reduceLT, ↓reduceIte, Int.reduceBEq, Int.reduceBNe, Int.reduceAdd, Int.reduceSub, Int.reduceMul, lks_length]; try refine okTr_and rfl ?_
  by_cases hlen : l.length = m.length
  · have q0 : ((l.length : Int) != (m.length : Int)) = false := by simp; omega
    (simp only [go_sem, Nat.reduceAdd, Nat.reduceMul, Int.reduceToNat, Nat.reduceLeDiff, Int.reduceLE, Int.reduceLT, ↓reduceIte, Int.reduceBEq, Int.reduceBNe, Int.reduceAdd, Int.reduceSub, Int.reduceMul, q0]; try refine okTr_and rfl ?_)
    refine loop_of (α := Nat) (fun k => [slL l, slL m, .any, .any, .any, iA k, .any, .any, .any, .any, .any, .any, .any, .any, .any, .any, .any, .any, .any, .any, .any, .any, .any, .any, .any, .any, .any]) (fun _ => []) (fun k => k ≤ l.length ∧ ∀ i, i < k → l.getD i lk0 = m.getD i lk0) (fun k => l.length - k) 0 ⟨by simp, fun i hi => by omega⟩ (Wk.to (by simp) (by simp [leT])) ?_
    rintro k ⟨hk, hall⟩
    (simp only [go_sem, Nat.reduceAdd, Nat.reduceMul, Int.reduceToNat, Nat.reduceLeDiff, Int.reduceLE, Int.reduceLT, ↓reduceIte, Int.reduceBEq, Int.reduceBNe, Int.reduceAdd, Int.reduceSub, Int.reduceMul, lks_length]; try refine okTr_and rfl ?_)
    by_cases hlt : k < l.length
    · have q1 : decide ((k : Int) < (l.length : Int)) = true := by simp; omega
      have ek := i64_succ k (by omega)
      have g := lks_get l k hlt
      have g2 := lks_get m k (by omega)
      have hbk := hb _ (lk_mem l k hlt)
      (simp only [go_sem, Nat.reduceAdd, Nat.reduceMul, Int.reduceToNat, Nat.reduceLeDiff, Int.reduceLE, Int.reduceLT, ↓reduceIte, Int.reduceBEq, Int.reduceBNe, Int.reduceAdd, Int.reduceSub, Int.reduceMul, q1, g, g2, lks_length, Int.toNat_natCast]; try refine okTr_and rfl ?_)
      (repeat ((with_reducible refine And.intro ?_ ?_); (· exact sd)))
      refine CallK.p (ref23_One (l.getD k lk0) (m.getD k lk0) hbk) ?_
      by_cases he : l.getD k lk0 = m.getD k lk0
      · have q2 : decide (l.getD k lk0 = m.getD k lk0) = true := by simpa using he
        (simp only [go_sem, Nat.reduceAdd, Nat.reduceMul, Int.reduceToNat, Nat.reduceLeDiff, Int.reduceLE, Int.reduceLT, ↓reduceIte, Int.reduceBEq, Int.reduceBNe, Int.reduceAdd, Int.reduceSub, Int.reduceMul, q2, ek]; try refine okTr_and rfl ?_)
        (repeat ((with_reducible refine And.intro ?_ ?_); (· exact sd)))
        exact ⟨k + 1, ⟨hlt, fun i hi => by
          rcases Nat.lt_or_ge i k with h | h
          · exact hall i h
          · obtain rfl : i = k := by omega
            exact he⟩, by omega, Wk.to (by simp) (by simp [leT])⟩
      · have q2 : decide (l.getD k lk0 = m.getD k lk0) = false := by simpa using he
        have e : sameL l m = false := by unfold sameL; simp only [decide_eq_false_iff_not]; rintro rfl; exact he rfl
        (simp only [go_sem, Nat.reduceAdd, Nat.reduceMul, Int.reduceToNat, Nat.reduceLeDiff, Int.reduceLE, Int.reduceLT, ↓reduceIte, Int.reduceBEq, Int.reduceBNe, Int.reduceAdd, Int.reduceSub, Int.reduceMul, q2]; try refine okTr_and rfl ?_)
        (repeat ((with_reducible refine And.intro ?_ ?_); (· exact sd)))
        ((refine FinK.finB r22 [] ?_ ?_); (· first | with_reducible rfl | (simp [e]; done) | rfl); (· simp [resAL, resA1, loadA, oneOr, e]))
    · have q1 : decide ((k : Int) < (l.length : Int)) = false := by simp; omega
      have e : sameL l m = true := by
        unfold sameL
        simp only [decide_eq_true_eq]
        refine List.ext_getElem hlen fun i h1 h2 => ?_
        have := hall i (by omega)
        simpa [h1, h2] using this
      (simp only [go_sem, Nat.reduceAdd, Nat.reduceMul, Int.reduceToNat, Nat.reduceLeDiff, Int.reduceLE, Int.reduceLT, ↓reduceIte, Int.reduceBEq, Int.reduceBNe, Int.reduceAdd, Int.reduceSub, Int.reduceMul, q1]; try refine okTr_and rfl ?_)
      ((refine FinK.finB r22 [] ?_ ?_); (· first | with_reducible rfl | (simp [e]; done) | rfl); (· simp [resAL, resA1, loadA, oneOr, e]))
  · have q0 : ((l.length : Int) != (m.length : Int)) = true := by simp; omega
    have e : sameL l m = false := by unfold sameL; simp only [decide_eq_false_iff_not]; rintro rfl; exact hlen rfl
    (simp only [go_sem, Nat.reduceAdd, Nat.reduceMul, Int.reduceToNat, Nat.reduceLeDiff, Int.reduceLE, Int.reduceLT, ↓reduceIte, Int.reduceBEq, Int.reduceBNe, Int.reduceAdd, Int.reduceSub, Int.reduceMul, q0]; try refine okTr_and rfl ?_)
    ((refine FinK.finB r22 [] ?_ ?_); (· first | with_reducible rfl | (simp [e]; done) | rfl); (· simp [resAL, resA1, loadA, oneOr, e]))
theorem ref23_Same (l m : List Lk) (hm : Smalls l) : Ct Try.prog 22 [slL l, slL m] [] (fun _ => bA (sameL l m)) [] (fun _ => []) := (ref23_Same0 l m hm).toCt cl cl
def longL (l : List Lk) : Bool := (l.take 50).any (fun x => decide (50 < (x.bk.length : Int))) || decide (50 < (l.length : Int))
theorem longL_no {l : List Lk} (h : longL l = false) : l.length ≤ 50 ∧ ∀ x ∈ l, x.bk.length ≤ 50 := by
  unfold longL at h
  rw [Bool.or_eq_false_iff] at h
  have h1 : l.length ≤ 50 := by have := h.2; simp only [decide_eq_false_iff_not] at this; omega
  refine ⟨h1, fun x hx => ?_⟩
  have h2 := h.1
  rw [List.take_of_length_le h1, List.any_eq_false] at h2
  have := h2 x hx
  simp only [decide_eq_true_eq] at this
  omega
theorem longL_smalls {l : List Lk} (h : longL l = false) : Smalls l := by
  obtain ⟨a, b⟩ := longL_no h
  exact ⟨by omega, fun x hx => by have := b x hx; omega⟩
theorem law23_Long0 (l : List Lk) : Does Try.prog 12 [slL l] [] (bA (longL l)) [] := by
  refine Does.runA Try.func12 b12 n12 Try.ntmps12 ?_; simp only [c12, go_sem, Nat.reduceAdd, Nat.reduceMul, Int.reduceToNat, Nat.reduceLeDiff, Int.reduceLE, Int.reduceLT, ↓reduceIte, Int.reduceBEq, Int.reduceBNe, Int.reduceAdd, Int.reduceSub, Int.reduceMul]; try refine okTr_and rfl ?_
  refine loop_of (α := Nat) (fun k => [slL l, .any, .any, iA k, .any, .any, .any, .any, .any, .any, .any, .any, .any, .any, .any, .any, .any, .any, .any, .any, .any, .any, .any, .any]) (fun _ => []) (fun k => k ≤ l.length ∧ k ≤ 50 ∧ ∀ i, i < k → (l.getD i lk0).bk.length ≤ 50) (fun k => l.length - k) 0 ⟨by simp, by simp, by intro i hi; omega⟩ (Wk.to (by simp) (by simp [leT])) ?_
  rintro k ⟨hk, hk2, hall⟩
  have hno : k = l.length ∨ k = 50 → (l.take 50).any (fun x => decide (50 < (x.bk.length : Int))) = false := fun hor => by
    rw [List.any_eq_false]
    intro t ht
    obtain ⟨i, hi, rfl⟩ := List.getElem_of_mem ht
    simp only [List.length_take] at hi
    have := hall i (by omega)
    have e : l.getD i lk0 = l[i]'(by omega) := by simp [show i < l.length by omega]
    rw [e] at this
    simp only [List.getElem_take, decide_eq_true_eq]
    omega
  (simp only [go_sem, Nat.reduceAdd, Nat.reduceMul, Int.reduceToNat, Nat.reduceLeDiff, Int.reduceLE, Int.reduceLT, ↓reduceIte, Int.reduceBEq, Int.reduceBNe, Int.reduceAdd, Int.reduceSub, Int.reduceMul, lks_length]; try refine okTr_and rfl ?_)
  by_cases hlt : k < l.length
  · have q1 : decide ((k : Int) < l.length) = true := by simp; omega
    by_cases h50 : k < 50
    · have q2 : decide ((k : Int) < 50) = true := by simp; omega
      have g := lks_get l k hlt
      have ei := i64_succ k (by omega)
      (simp only [go_sem, Nat.reduceAdd, Nat.reduceMul, Int.reduceToNat, Nat.reduceLeDiff, Int.reduceLE, Int.reduceLT, ↓reduceIte, Int.reduceBEq, Int.reduceBNe, Int.reduceAdd, Int.reduceSub, Int.reduceMul, q1, q2, g, lks_length, ints_length, Int.toNat_natCast]; try refine okTr_and rfl ?_)
      (repeat ((with_reducible refine And.intro ?_ ?_); (· exact sd)))
      by_cases c : 50 < ((l.getD k lk0).bk.length : Int)
      · have q3 : decide (50 < ((l.getD k lk0).bk.length : Int)) = true := by simpa using c
        have he : longL l = true := by
          unfold longL
          have : (l.take 50).any (fun x => decide (50 < (x.bk.length : Int))) = true := by
            rw [List.any_eq_true]
            refine ⟨l.getD k lk0, ?_, q3⟩
            have : (l.take 50)[k]? = some (l.getD k lk0) := by simp [h50, hlt]
            exact List.mem_of_getElem? this
          rw [this]; rfl
        (simp only [go_sem, Nat.reduceAdd, Nat.reduceMul, Int.reduceToNat, Nat.reduceLeDiff, Int.reduceLE, Int.reduceLT, ↓reduceIte, Int.reduceBEq, Int.reduceBNe, Int.reduceAdd, Int.reduceSub, Int.reduceMul, q3]; try refine okTr_and rfl ?_)
        ((refine FinK.finB r12 [] ?_ ?_); (· first | with_reducible rfl | (simp [he]; done) | rfl); (· simp [resAL, resA1, loadA, oneOr, he]))
      · have q3 : decide (50 < ((l.getD k lk0).bk.length : Int)) = false := by simpa using c
        (simp only [go_sem, Nat.reduceAdd, Nat.reduceMul, Int.reduceToNat, Nat.reduceLeDiff, Int.reduceLE, Int.reduceLT, ↓reduceIte, Int.reduceBEq, Int.reduceBNe, Int.reduceAdd, Int.reduceSub, Int.reduceMul, q3, ei]; try refine okTr_and rfl ?_)
        refine ⟨k + 1, ⟨hlt, h50, fun i hi => ?_⟩, by omega, Wk.to (by simp) (by simp [leT])⟩
        rcases Nat.lt_or_ge i k with h5 | h5
        · exact hall i h5
        · obtain rfl : i = k := by omega
          omega
    · have q2 : decide ((k : Int) < 50) = false := by simp; omega
      have he : longL l = decide (50 < (l.length : Int)) := by unfold longL; rw [hno (.inr (by omega))]; rfl
      (simp only [go_sem, Nat.reduceAdd, Nat.reduceMul, Int.reduceToNat, Nat.reduceLeDiff, Int.reduceLE, Int.reduceLT, ↓reduceIte, Int.reduceBEq, Int.reduceBNe, Int.reduceAdd, Int.reduceSub, Int.reduceMul, q1, q2, lks_length]; try refine okTr_and rfl ?_)
      ((refine FinK.finB r12 [] ?_ ?_); (· first | with_reducible rfl | (simp [he]; done) | rfl); (· simp [resAL, resA1, loadA, oneOr, he]))
  · have q1 : decide ((k : Int) < l.length) = false := by simp; omega
    have he : longL l = decide (50 < (l.length : Int)) := by unfold longL; rw [hno (.inl (by omega))]; rfl
    (simp only [go_sem, Nat.reduceAdd, Nat.reduceMul, Int.reduceToNat, Nat.reduceLeDiff, Int.reduceLE, Int.reduceLT, ↓reduceIte, Int.reduceBEq, Int.reduceBNe, Int.reduceAdd, Int.reduceSub, Int.reduceMul, q1, lks_length]; try refine okTr_and rfl ?_)
    ((refine FinK.finB r12 [] ?_ ?_); (· first | with_reducible rfl | (simp [he]; done) | rfl); (· simp [resAL, resA1, loadA, oneOr, he]))
theorem law23_Long (l : List Lk) : Ct Try.prog 12 [slL l] [] (fun _ => bA (longL l)) [] (fun _ => []) := (law23_Long0 l).toCt cl cl
end Go.Proofs.Ytnfagphepkeedaa
end
section
namespace Go.Proofs.Ytnfagphepkeedaa
open Go.RowKit

theorem flat_app (xs ys : List AV) : flat (xs ++ ys) = flat xs ++ flat ys := by simp [flat]
theorem flat_len {k : Nat} {ys : List AV} (hk : ∀ x ∈ ys, x.cells.length = k) : (flat ys).length = ys.length * k := (flat_get ys fun i x h => hk x (List.mem_of_getElem? h)).1
theorem flat_part {k : Nat} {ys : List AV} (hk : ∀ x ∈ ys, x.cells.length = k) {i : Nat} (h : i < ys.length) : ((flat ys).drop (i * k)).take k = (ys.getD i .any).cells := by
  have e : ys = ys.take i ++ ys[i] :: ys.drop (i + 1) := by simp
  have hl : (flat (ys.take i)).length = i * k := by rw [flat_len (fun x hx => hk x (List.mem_of_mem_take hx)), List.length_take, Nat.min_eq_left (by omega)]
  have hi : (ys[i]).cells.length = k := hk _ (by simp)
  have hg : ys.getD i .any = ys[i] := by simp [h]
  rw [hg]
  conv => lhs; rw [e]
  rw [flat_app, flat_cons, ← hl, List.drop_left, ← hi, List.take_left]
theorem splice_app (a b c cs : List AV) (h : cs.length = b.length) : splice (a ++ b ++ c) a.length cs = a ++ cs ++ c := by
  apply List.ext_getElem?
  intro j
  rw [splice_get _ _ _ (by simp; omega)]
  by_cases h1 : a.length ≤ j ∧ j < a.length + cs.length
  · rw [if_pos h1, List.append_assoc, List.getElem?_append_right h1.1, List.getElem?_append_left (by omega)]
  · rw [if_neg h1]
    by_cases h2 : j < a.length
    · rw [List.append_assoc, List.append_assoc, List.getElem?_append_left h2, List.getElem?_append_left h2]
    · rw [List.getElem?_append_right (by simp; omega), List.getElem?_append_right (by simp; omega)]
      simp [h]
theorem flat_splice {k : Nat} {ys : List AV} (hk : ∀ x ∈ ys, x.cells.length = k) {i : Nat} (h : i < ys.length) (z : AV) (hz : z.cells.length = k) : splice (flat ys) (i * k) z.cells = flat (ys.set i z) := by
  have e : ys = ys.take i ++ ys[i] :: ys.drop (i + 1) := by simp
  have hl : (flat (ys.take i)).length = i * k := by rw [flat_len (fun x hx => hk x (List.mem_of_mem_take hx)), List.length_take, Nat.min_eq_left (by omega)]
  have hi : (ys[i]).cells.length = k := hk _ (by simp)
  have e2 : ys.set i z = ys.take i ++ z :: ys.drop (i + 1) := List.set_eq_take_append_cons_drop.trans (if_pos h)
  rw [e2]
  conv => lhs; rw [e]
  rw [flat_app, flat_cons, flat_app, flat_cons, ← List.append_assoc, ← List.append_assoc, ← hl]
  exact splice_app _ _ _ _ (by rw [hi, hz])

/-- The cells of links. -/
abbrev lkC (l : List Lk) : List AV := flat (lks l)
theorem lks_k (l : List Lk) : ∀ x ∈ lks l, x.cells.length = 2 := fun x hx => by
  simp only [lks, List.mem_map] at hx
  obtain ⟨y, _, rfl⟩ := hx
  rfl
theorem lkC_part (l : List Lk) (k : Nat) (h : k < l.length) : ((lkC l).drop (k * 2)).take 2 = [uA (l.getD k lk0).st, slU (l.getD k lk0).bk] := by
  rw [flat_part (lks_k l) (by rw [lks_length]; exact h), lks_get l k h]; rfl
theorem lkC_len (l : List Lk) : (lkC l).length = l.length * 2 := by rw [flat_len (lks_k l), lks_length]
theorem lkC_snoc (l : List Lk) (x : Lk) : lkC l ++ [uA x.st, slU x.bk] = lkC (l ++ [x]) := by
  have e : lks (l ++ [x]) = lks l ++ [lkA x] := by simp [lks]
  rw [lkC, lkC, e, flat_app]; rfl
theorem lkC_set (l : List Lk) (x : Lk) (k : Nat) (h : k < l.length) : splice (lkC l) (k * 2) [uA x.st, slU x.bk] = lkC (l.set k x) := by
  have := flat_splice (lks_k l) (i := k) (by rw [lks_length]; exact h) (lkA x) rfl
  have e : (lks l).set k (lkA x) = lks (l.set k x) := by simp [lks, List.map_set]
  rw [e] at this; exact this
theorem lkC_ren (ρ : Nat → Nat) (l : List Lk) : (lkC l).map (fun x => x.ren ρ) = lkC l := by
  induction l with
  | nil => rfl
  | cons x l ih =>
    have e : lkC (x :: l) = uA x.st :: slU x.bk :: lkC l := rfl
    rw [e, List.map_cons, List.map_cons, ih]; simp [ixs_z]
abbrev lkO (l : List Lk) : AObj := .mrow 2 l.length (lkC l)
theorem link_cpd0 (x : Lk) (hn : x.bk.length ≤ 1000000) : Does Try.prog 40 [lkA x] [] (lkA x) [] := by
  refine Does.runA Try.func40 b40 n40 Try.ntmps40 ?_; simp only [c40, go_sem, Nat.reduceAdd, Nat.reduceMul, Int.reduceToNat, Nat.reduceLeDiff, Int.reduceLE, Int.reduceLT, ↓reduceIte, Int.reduceBEq, Int.reduceBNe, Int.reduceAdd, Int.reduceSub, Int.reduceMul, ints_length]; try refine okTr_and rfl ?_
  (repeat ((with_reducible refine And.intro ?_ ?_); (· exact sd)))
  (refine FinK.unobj 1 rfl ?_; simp only [List.set_cons_zero, List.set_cons_succ, List.map_cons, List.map_nil, untag1_lit, untag1_sl])
  exact FinK.finA r40 []
theorem link_cpd (x : Lk) (hn : x.bk.length ≤ 1000000) : Ct Try.prog 40 [lkA x] [] (fun _ => lkA x) [] (fun _ => []) := (link_cpd0 x hn).toCt cl cl
set_option maxRecDepth 100000 in
theorem link_CopyM0 (l : List Lk) (hm : Smalls l) : Does Try.prog 25 [slL l] [] (.ms 0 l.length) [lkO l] := by
  obtain ⟨hn, hb⟩ := hm
  refine Does.runA Try.func25 b25 n25 Try.ntmps25 ?_; simp only [c25, go_sem, Nat.reduceAdd, Nat.reduceMul, Int.reduceToNat, Nat.reduceLeDiff, Int.reduceLE, Int.reduceLT, ↓reduceIte, Int.reduceBEq, Int.reduceBNe, Int.reduceAdd, Int.reduceSub, Int.reduceMul, lks_length]; try refine okTr_and rfl ?_
  refine loop_of (α := Nat) (fun k => [slL l, .any, .any, .ms 0 k, .any, .any, slL l, iA l.length, iA k, .any, .any, .any, .any, .any, .any, .any, .any, .any, .any]) (fun k => [lkO (l.take k)]) (fun k => k ≤ l.length) (fun k => l.length - k) 0 (by simp) ((Wk.mrow 3 2 rfl (by decide)).trans (Wk.to (by simp [lkO, lkC, lks, flat]) (by simp [leT]))) ?_
  intro k hk
  (simp only [go_sem, Nat.reduceAdd, Nat.reduceMul, Int.reduceToNat, Nat.reduceLeDiff, Int.reduceLE, Int.reduceLT, ↓reduceIte, Int.reduceBEq, Int.reduceBNe, Int.reduceAdd, Int.reduceSub, Int.reduceMul]; try refine okTr_and rfl ?_)
  by_cases hlt : k < l.length
  · have q1 : decide ((k : Int) < (l.length : Int)) = true := by simp; omega
    have ek := i64_succ k (by omega)
    have g := lks_get l k hlt
    have hbk := hb _ (lk_mem l k hlt)
    have hl : (l.take k).length = k := by simp; omega
    have hs := lkC_snoc (l.take k) (l.getD k lk0)
    rw [← lk_take l k hlt] at hs
    have hl1 : (l.take (k + 1)).length = k + 1 := by simp; omega
    (simp only [go_sem, Nat.reduceAdd, Nat.reduceMul, Int.reduceToNat, Nat.reduceLeDiff, Int.reduceLE, Int.reduceLT, ↓reduceIte, Int.reduceBEq, Int.reduceBNe, Int.reduceAdd, Int.reduceSub, Int.reduceMul, q1, g, lks_length, Int.toNat_natCast]; try refine okTr_and rfl ?_)
    (repeat ((with_reducible refine And.intro ?_ ?_); (· exact sd)))
    refine CallK.p (link_cpd (l.getD k lk0) hbk) ?_; (simp only [go_sem, Nat.reduceAdd, Nat.reduceMul, Int.reduceToNat, Nat.reduceLeDiff, Int.reduceLE, Int.reduceLT, ↓reduceIte, Int.reduceBEq, Int.reduceBNe, Int.reduceAdd, Int.reduceSub, Int.reduceMul, hl]; try refine okTr_and rfl ?_)
    (repeat ((with_reducible refine And.intro ?_ ?_); (· exact sd)))
    (simp only [go_sem, Nat.reduceAdd, Nat.reduceMul, Int.reduceToNat, Nat.reduceLeDiff, Int.reduceLE, Int.reduceLT, ↓reduceIte, Int.reduceBEq, Int.reduceBNe, Int.reduceAdd, Int.reduceSub, Int.reduceMul, ek, hs]; try refine okTr_and rfl ?_)
    exact ⟨k + 1, by omega, by omega, Wk.sel [0] (by simp) rfl (by simp) rfl (by simp only [List.map_cons, List.map_nil, List.getElem?_cons_zero, oren_mrow, lkC_ren, hl1]) (by simp [selT, ixs_z])⟩
  · have q1 : decide ((k : Int) < (l.length : Int)) = false := by simp; omega
    have ek : k = l.length := by omega
    have el : l.take l.length = l := List.take_length
    subst ek
    (simp only [go_sem, Nat.reduceAdd, Nat.reduceMul, Int.reduceToNat, Nat.reduceLeDiff, Int.reduceLE, Int.reduceLT, ↓reduceIte, Int.reduceBEq, Int.reduceBNe, Int.reduceAdd, Int.reduceSub, Int.reduceMul, q1]; try refine okTr_and rfl ?_)
    ((refine FinK.finB r25 [0] ?_ ?_); (· first | with_reducible rfl | (simp [el, lkC_ren]; done) | rfl); (· simp [resAL, resA1, loadA, oneOr, el, lkC_ren]))
end Go.Proofs.Ytnfagphepkeedaa
end
section
namespace Go.Proofs.Ytnfagphepkeedaa
open Go.RowKit

theorem Try.own : ownKnob Try.prog.godebug = none := by kernel_rfl
theorem Try.laidOut : laidOutB Try.prog = true := by kernel_rfl

end Go.Proofs.Ytnfagphepkeedaa
end
section
namespace Go.Proofs.Ytnfagphepkeedaa
open Go.RowKit Go.Lib

end Go.Proofs.Ytnfagphepkeedaa
end
section
namespace Go.Proofs.Ytnfagphepkeedaa
open Go.RowKit Go.Lib

end Go.Proofs.Ytnfagphepkeedaa
end
section
namespace Go.Proofs.Ytnfagphepkeedaa
open Go.RowKit

theorem link_CopyM (l : List Lk) (hm : Smalls l) : Ct Try.prog 25 [slL l] [] (fun n => .ms n l.length) [] (fun _ => [.mrow 2 l.length (lkC l)]) :=
  Ct.n (link_CopyM0 l hm) cl (fun n N => by simp [ixs, List.range'_succ]) (fun n N => by rw [List.map_cons, List.map_nil, oren_mrow, lkC_ren])
end Go.Proofs.Ytnfagphepkeedaa
end
section
namespace Go.Proofs.Ytnfagphepkeedaa
open Go.RowKit

end Go.Proofs.Ytnfagphepkeedaa
end
section
namespace Go.Proofs.Ytnfagphepkeedaa
open Go.RowKit

end Go.Proofs.Ytnfagphepkeedaa
end
section
namespace Go.Proofs.Ytnfagphepkeedaa

def cstep (c : Nat) : Nat := if c % 2 = 1 then (c / 2) ^^^ 2197175160 else c / 2
def csteps : Nat → Nat → Nat
  | 0, c => c
  | n + 1, c => csteps n (cstep c)
def cinto (c x : Nat) : Nat := csteps 8 (c ^^^ x)
def crcA (c : Nat) (l : List Nat) : Nat := l.foldl cinto c
end Go.Proofs.Ytnfagphepkeedaa
end
section
namespace Go.Proofs.Ytnfagphepkeedaa

def nats (l : List Int) : List Nat := l.map Int.toNat
/-- The sum of bytes. -/
def crcI (l : List Int) : Int := 4294967295 - (crcA 4294967295 (nats l) : Nat)
def frameB (p : List Int) : List Int := blobB p ++ lowBytes 4 (crcI p)
def mfr (m : Int) : Int := min m 2097152
/-- The reader behind a frame, and its payload. -/
def RS.frame (s : RS) (m : Int) : RS × List Int :=
  if ((s.blob (mfr m)).1.fixed 4).1.code = 0 then
    (if ((s.blob (mfr m)).1.fixed 4).2 = crcI (s.blob (mfr m)).2 then (((s.blob (mfr m)).1.fixed 4).1, (s.blob (mfr m)).2) else (((s.blob (mfr m)).1.fixed 4).1.fail 6 (s.blob (mfr m)).1.at_, []))
  else (((s.blob (mfr m)).1.fixed 4).1, [])
theorem frameB_len (p : List Int) : (frameB p).length = (blobB p).length + 4 := by unfold frameB; rw [List.length_append, lowBytes_len]
theorem fixed_keep {s : RS} (h : ROk s) (n : Int) : ROk (s.fixed n).1 ∧ (s.fixed n).1.l = s.l := ⟨h.take n, (h.ok.take n).2⟩
theorem frameB_bys {p : List Int} (hp : Bys p) (h : p.length < 18446744073709551616) : Bys (frameB p) := by
  intro y hy
  rcases List.mem_append.1 hy with hy | hy
  · rcases List.mem_append.1 hy with hy | hy
    · exact vb_by (by omega) (by omega) y hy
    · exact hp y hy
  · exact lowBytes_bys 4 _ y hy
end Go.Proofs.Ytnfagphepkeedaa
end
section
namespace Go.Proofs.Ytnfagphepkeedaa
open Go.RowKit

end Go.Proofs.Ytnfagphepkeedaa
end
section
namespace Go.Proofs.Ytnfagphepkeedaa

/-- How many bytes a frame has. -/
def sizeF (n : Int) : Int := (vb (max n 0)).length + max n 0 + 4
theorem sizeF_frame {p : List Int} : sizeF p.length = (frameB p).length := by
  rw [frameB_len]; unfold sizeF blobB
  have : max (p.length : Int) 0 = p.length := by omega
  rw [this, List.length_append]; omega
/-- How many bytes a frame has, by its length (0: it can't be told). -/
def wholeF (b : List Int) (m : Int) : Int := if ((RS.new b).int (mfr m)).1.code = 0 then sizeF ((RS.new b).int (mfr m)).2 else 0
end Go.Proofs.Ytnfagphepkeedaa
end
section
namespace Go.Proofs.Ytnfagphepkeedaa

/-- Where there is no fault, its place is 0. -/
def Cl (s : RS) : Prop := s.code = 0 → s.fat = 0
theorem Cl.new (l : List Int) : Cl (RS.new l) := fun _ => rfl
theorem Cl.fail {s : RS} (h : Cl s) (c a : Int) : Cl (s.fail c a) := by
  unfold RS.fail
  split
  · intro hc
    simp only [flt] at hc ⊢
    by_cases h0 : c = 0
    · rw [if_pos h0]
    · rw [if_neg h0] at hc; exact absurd hc h0
  · exact h
theorem Cl.adv {s : RS} (h : Cl s) (i : Int) : Cl (s.adv i) := h
theorem Cl.skip {s : RS} (h : Cl s) (n : Int) : Cl (s.skip n).1 := by
  unfold RS.skip
  repeat' split
  all_goals first | exact h.fail _ _ | exact h
theorem Cl.take {s : RS} (h : Cl s) (n : Int) : Cl (s.take n).1 := by
  unfold RS.take; split <;> exact h.skip n
theorem Cl.byte {s : RS} (h : Cl s) : Cl s.byte.1 := by
  unfold RS.byte; split <;> exact h.skip 1
theorem Cl.vint {s : RS} (h : Cl s) : Cl s.vint.1 := by
  unfold RS.vint
  split
  · split
    · exact h
    · split
      · intro hc; simp at hc
      · rename_i h1 _; intro hc; exact absurd hc h1
  · exact h
theorem Cl.most {s : RS} (h : Cl s) (m : Int) : Cl (s.most m).1 := by
  unfold RS.most; split
  · exact h.vint.fail _ _
  · exact h.vint
theorem Cl.int {s : RS} (h : Cl s) (m : Int) : Cl (s.int m).1 := by
  unfold RS.int; split
  · exact h.most m
  · exact h.vint.fail _ _
theorem Cl.blob {s : RS} (h : Cl s) (m : Int) : Cl (s.blob m).1 := (h.int m).take _
theorem Cl.fixed {s : RS} (h : Cl s) (n : Int) : Cl (s.fixed n).1 := h.take n
theorem Cl.frame {s : RS} (h : Cl s) (m : Int) : Cl (s.frame m).1 := by
  have := (h.blob (mfr m)).fixed 4
  unfold RS.frame
  repeat' split
  · exact this
  · exact this.fail _ _
  · exact this
end Go.Proofs.Ytnfagphepkeedaa
end
section
namespace Go.Proofs.Ytnfagphepkeedaa

def epRight (e : Int) : Bool := decide (1 ≤ e) && decide (e < 4611686018427387904)
def epPos (e : Int) : Bool := decide (e < 4611686018427387904)
/-- The next number, where ok lets it be. -/
def RS.epo (s : RS) (ok : Int → Bool) : RS × Int := if s.vint.1.code = 0 then (if ok s.vint.2 = true then s.vint else (s.vint.1.fail 3 s.at_, 0)) else (s.vint.1, 0)
theorem epo_keep {s : RS} (h : ROk s) (ok : Int → Bool) : ROk (s.epo ok).1 ∧ (s.epo ok).1.l = s.l := by
  obtain ⟨a, b⟩ := h.vint
  unfold RS.epo
  repeat' split
  · exact ⟨a, b⟩
  · exact ⟨a.fail _ _, by rw [fail_l]; exact b⟩
  · exact ⟨a, b⟩
theorem fail_not3 {s : RS} (a : Int) (h : s.code = 0) : ¬ (s.fail 3 a).code = 0 := by
  unfold RS.fail; rw [if_pos h]; simp [flt]
theorem epo_code {s : RS} {ok : Int → Bool} (hc : (s.epo ok).1.code = 0) : s.vint.1.code = 0 ∧ ok s.vint.2 = true ∧ s.epo ok = s.vint := by
  unfold RS.epo at hc ⊢
  by_cases h : s.vint.1.code = 0
  · rw [if_pos h] at hc ⊢
    by_cases ho : ok s.vint.2 = true
    · rw [if_pos ho]; exact ⟨h, ho, rfl⟩
    · rw [if_neg ho] at hc; exact absurd hc (fail_not3 _ h)
  · rw [if_neg h] at hc; exact absurd hc h
theorem epo_is {s : RS} (h : ROk s) {ok : Int → Bool} (hc : (s.epo ok).1.code = 0) : s.code = 0 ∧ 0 ≤ (s.epo ok).2 ∧ (s.epo ok).2 < 18446744073709551616 ∧ ok (s.epo ok).2 = true ∧ s.at_ < (s.epo ok).1.at_ ∧ s.l.take (s.epo ok).1.at_.toNat = s.l.take s.at_.toNat ++ vb (s.epo ok).2 := by
  obtain ⟨h1, h2, h3⟩ := epo_code hc
  have hv := vint_range (s := s) h.bys
  obtain ⟨v1, v2, v3⟩ := vint_bytes h h1
  have ha := vint_adv h h1
  rw [h3]
  exact ⟨v3, hv.1, hv.2, h2, by omega, v1⟩
theorem epo_bad {s : RS} {ok : Int → Bool} (hc : ¬ (s.epo ok).1.code = 0) : (s.epo ok).2 = 0 := by
  unfold RS.epo at hc ⊢
  split
  · rename_i h
    rw [if_pos h] at hc
    split
    · rename_i ho; rw [if_pos ho] at hc; exact absurd h hc
    · rfl
  · rfl
end Go.Proofs.Ytnfagphepkeedaa
end
section
namespace Go.Proofs.Ytnfagphepkeedaa

theorem Cl.epo {s : RS} (h : Cl s) (ok : Int → Bool) : Cl (s.epo ok).1 := by
  unfold RS.epo
  repeat' split
  · exact h.vint
  · exact h.vint.fail _ _
  · exact h.vint
/-- A header. -/
structure Hd where
  ver : Int
  ep : Int
  base : Int
  deriving DecidableEq
structure Hd.ok (h : Hd) : Prop where
  v0 : -9223372036854775808 ≤ h.ver
  v1 : h.ver < 9223372036854775808
  e0 : 0 ≤ h.ep
  e1 : h.ep < 18446744073709551616
  b0 : 0 ≤ h.base
  b1 : h.base < 18446744073709551616
/-- The bytes between two places. -/
def RS.from (s t : RS) : List Int := (s.l.drop s.at_.toNat).take (t.at_.toNat - s.at_.toNat)
end Go.Proofs.Ytnfagphepkeedaa
end
section
namespace Go.Proofs.Ytnfagphepkeedaa

/-- An entry: its links, its data. -/
structure En where
  lk : List Lk
  data : List Int
def en0 : En := ⟨[], []⟩
structure En.ok (e : En) : Prop where
  lk : Lks e.lk
  data : Bys e.data
def Ens (l : List En) : Prop := ∀ e ∈ l, e.ok
def rightE (pos : Int) (e : En) : Bool := rightL pos e.lk && decide (e.data.length ≤ 1048576)
/-- The reader behind a head, the links, how many bytes. -/
def RS.ehead (s : RS) (pos m : Int) : RS × (List Lk × Int) := if ((s.links pos).1.int m).1.code = 0 then (((s.links pos).1.int m).1, ((s.links pos).2, ((s.links pos).1.int m).2)) else (((s.links pos).1.int m).1, ([], 0))
theorem Cl.many {β : Type} {F : Fmt β} (hF : ∀ s acc, Cl s → Cl (F.f s acc).1) : ∀ (n : Nat) (s : RS) (acc : List β), Cl s → Cl (F.many n s acc).1 := by
  intro n
  induction n with
  | zero => intro s acc h; exact h
  | succ n ih =>
    intro s acc h
    unfold Fmt.many
    split
    · exact ih _ _ (hF s acc h)
    · exact hF s acc h
theorem Cl.counted {β : Type} {F : Fmt β} (hF : ∀ s acc, Cl s → Cl (F.f s acc).1) {s : RS} (h : Cl s) (m : Int) : Cl (F.counted m s).1 := Cl.many hF _ _ _ (h.int m)
theorem Cl.fall {s : RS} (h : Cl s) (b m : Int) : Cl (s.fall b m).1 := by
  refine Cl.counted (F := fallF b) (fun s acc h => ?_) h m
  simp only [fallF]
  split
  · exact h.vint.fail _ _
  · exact h.vint
theorem Cl.links {s : RS} (h : Cl s) (pos : Int) : Cl (s.links pos).1 := by
  refine Cl.counted (F := linkF pos) (fun s acc h => ?_) h 16
  simp only [linkF]
  refine Cl.fall ?_ _ _
  unfold RS.lkHead
  split
  · exact h.vint.fail _ _
  · exact h.vint
theorem Cl.ehead {s : RS} (h : Cl s) (pos m : Int) : Cl (s.ehead pos m).1 := by
  unfold RS.ehead
  split <;> exact (h.links pos).int m
/-- Entries' data, one behind the other. -/
def joinE (l : List En) : List Int := l.flatMap (·.data)
end Go.Proofs.Ytnfagphepkeedaa
end
section
namespace Go.Proofs.Ytnfagphepkeedaa

section
variable {pre : List Int}
end
end Go.Proofs.Ytnfagphepkeedaa
end
section
namespace Go.Proofs.Ytnfagphepkeedaa

/-- A footer. -/
structure Ft where
  ep : Int
  bat : Int
  ent : Int
  fst : Int
  fin : Int
  at_ : Int
  size : Int
  deriving DecidableEq
structure Ft.ok (f : Ft) : Prop where
  ep : 0 ≤ f.ep ∧ f.ep < 18446744073709551616
  bat : -9223372036854775808 ≤ f.bat ∧ f.bat < 9223372036854775808
  ent : -9223372036854775808 ≤ f.ent ∧ f.ent < 9223372036854775808
  fst : 0 ≤ f.fst ∧ f.fst < 18446744073709551616
  fin : 0 ≤ f.fin ∧ f.fin < 18446744073709551616
  at_ : -9223372036854775808 ≤ f.at_ ∧ f.at_ < 9223372036854775808
  size : -9223372036854775808 ≤ f.size ∧ f.size < 9223372036854775808
def RS.rest9 (s : RS) : RS := if 0 < s.left then s.fail 9 s.at_ else s
end Go.Proofs.Ytnfagphepkeedaa
end
section
namespace Go.Proofs.Ytnfagphepkeedaa

/-- An entry of the version 1. -/
structure O1 where
  st : Int
  bk : Int
  hb : Bool
  data : List Int
  deriving DecidableEq
def o10 : O1 := ⟨0, 0, false, []⟩
structure O1.ok (x : O1) : Prop where
  s0 : 0 ≤ x.st
  s1 : x.st < 18446744073709551616
  b0 : 0 ≤ x.bk
  b1 : x.bk < 18446744073709551616
  data : Bys x.data
/-- A segment of the version 1. -/
structure Sg1 where
  ep : Int
  base : Int
  en : List O1
  deriving DecidableEq
def sumO (l : List O1) : Int := ((l.flatMap (·.data)).length : Int)
/-- Are so many positions some, from one on? -/
def fitsB (base n : Int) : Bool := decide (base < 4611686018427387904) && decide (base + n ≤ 4611686018427387904)
def goodO (pos : Int) (x : O1) : Bool := if x.hb = true then decide (x.bk < pos) else decide (x.bk = 0)
/-- By how much the entry ahead is ahead; 0: there is none. -/
def backO (pos : Int) (x : O1) : Int := if x.hb = true then pos - x.bk else 0
/-- The reader behind a stream's number and the way back. -/
def RS.oback (s : RS) (pos : Int) : RS := if s.vint.1.vint.1.code = 0 ∧ pos < s.vint.1.vint.2 then s.vint.1.vint.1.fail 3 s.vint.1.at_ else s.vint.1.vint.1
def oldV (s : RS) (pos : Int) (d : List Int) : O1 := if 0 < s.vint.1.vint.2 ∧ (s.oback pos).code = 0 then ⟨s.vint.2, pos - s.vint.1.vint.2, true, d⟩ else ⟨s.vint.2, 0, false, d⟩
structure oldNx (base : Int) (acc : List O1) (x : O1) : Prop where
  s0 : 0 ≤ x.st
  s1 : x.st < 18446744073709551616
  b0 : 0 ≤ x.bk
  good : goodO (base + acc.length) x = true
  data : Bys x.data
  sum : sumO acc + x.data.length ≤ 1048576
  pos : base + acc.length < 4611686018427387904
def oldF (base : Int) : Fmt O1 := ⟨fun s acc => if base + acc.length < 4611686018427387904 then (((s.oback (base + acc.length)).blob (1048576 - sumO acc)).1, oldV s (base + acc.length) ((s.oback (base + acc.length)).blob (1048576 - sumO acc)).2) else (s.fail 3 0, o10),
  fun acc x => vb x.st ++ (vb (backO (base + acc.length) x) ++ blobB x.data), fun acc x => oldNx base acc x⟩
def RS.cnt (s : RS) (base least most : Int) : RS × Int := if (s.int most).1.code = 0 ∧ ((s.int most).2 < least ∨ fitsB base (s.int most).2 = false) then ((s.int most).1.fail 3 s.at_, (s.int most).2) else s.int most
def RS.olds (s : RS) (base : Int) : RS × List O1 := (oldF base).many (s.cnt base 0 400).2.toNat (s.cnt base 0 400).1 []
theorem cnt_keep {s : RS} (h : ROk s) (base least most : Int) : ROk (s.cnt base least most).1 ∧ (s.cnt base least most).1.l = s.l := by
  obtain ⟨a, b⟩ := h.int most
  unfold RS.cnt
  split
  · exact ⟨a.fail _ _, by simp only; rw [fail_l]; exact b⟩
  · exact ⟨a, b⟩
end Go.Proofs.Ytnfagphepkeedaa
end
section
namespace Go.Proofs.Ytnfagphepkeedaa

end Go.Proofs.Ytnfagphepkeedaa
end
section
namespace Go.Proofs.Ytnfagphepkeedaa

def Fa (s : RS) : Prop := 0 ≤ s.fat ∧ s.fat ≤ s.l.length
theorem Fa.new (l : List Int) : Fa (RS.new l) := ⟨Int.le_refl _, by show (0 : Int) ≤ _; omega⟩
theorem Fa.fail {s : RS} (h : Fa s) {c a : Int} (a0 : 0 ≤ a) (a1 : a ≤ s.l.length) : Fa (s.fail c a) := by
  unfold RS.fail
  split
  · unfold flt
    split
    · exact ⟨Int.le_refl _, by show (0 : Int) ≤ _; omega⟩
    · exact ⟨a0, a1⟩
  · exact h
theorem Fa.skip {s : RS} (h : Fa s) (hs : ROk s) (n : Int) : Fa (s.skip n).1 := by
  have h0 := hs.at0
  have h1 := hs.at1
  unfold RS.skip
  repeat' split
  · exact h.fail h0 h1
  · exact h.fail (by omega) (by omega)
  · exact h
  · exact h
theorem Fa.take {s : RS} (h : Fa s) (hs : ROk s) (n : Int) : Fa (s.take n).1 := by
  unfold RS.take
  split <;> exact h.skip hs n
theorem vgo_ge : ∀ (l : List Int) (n : Int), n ≤ (vgo n l).2.1 := by
  intro l
  induction l with
  | nil => intro n; unfold vgo; exact Int.le_refl _
  | cons c t ih =>
    intro n
    unfold vgo
    repeat' split
    · exact Int.le_refl _
    · exact Int.le_refl _
    · show n ≤ n + 1; omega
    · have := ih (n + 1); show n ≤ (vgo (n + 1) t).2.1; omega
    · have := ih (n + 1); show n ≤ (vgo (n + 1) t).2.1; omega
theorem Fa.vint {s : RS} (h : Fa s) (hs : ROk s) : Fa s.vint.1 := by
  have hk := hs.vint.1
  have h0 := hs.at0
  have hg := vgo_ge s.rest 0
  unfold RS.vint at hk ⊢
  by_cases hc : s.code = 0
  · rw [if_pos hc] at hk ⊢
    by_cases hv : (vgo 0 s.rest).1 = 0
    · rw [if_pos hv]; exact h
    · rw [if_neg hv] at hk ⊢
      by_cases h1 : (vgo 0 s.rest).1 = 1
      · rw [if_pos h1]; exact ⟨by show (0 : Int) ≤ (s.l.length : Int); omega, Int.le_refl _⟩
      · rw [if_neg h1] at hk ⊢
        have := hk.at1
        simp only at this
        exact ⟨by show 0 ≤ s.at_ + (vgo 0 s.rest).2.1; omega, by show s.at_ + (vgo 0 s.rest).2.1 ≤ (s.l.length : Int); omega⟩
  · rw [if_neg hc]; exact h
theorem Fa.int {s : RS} (h : Fa s) (hs : ROk s) (m : Int) : Fa (s.int m).1 := by
  have hv := h.vint hs
  have hl := hs.vint.2
  have h0 := hs.at0
  have h1 := hs.at1
  have hf : Fa (s.vint.1.fail 2 s.at_) := hv.fail h0 (by rw [hl]; exact h1)
  unfold RS.int RS.most
  repeat' split
  · exact hf
  · exact hv
  · exact hf
theorem Fa.blob {s : RS} (h : Fa s) (hs : ROk s) (m : Int) : Fa (s.blob m).1 := (h.int hs m).take (hs.int m).1 _
theorem Fa.frame {s : RS} (h : Fa s) (hs : ROk s) (m : Int) : Fa (s.frame m).1 := by
  have hb := h.blob hs (mfr m)
  obtain ⟨kb, lb⟩ := RS.ok.blob hs (mfr m)
  have hf : Fa ((s.blob (mfr m)).1.fixed 4).1 := hb.take kb 4
  obtain ⟨kf, lf⟩ := fixed_keep kb 4
  unfold RS.frame
  repeat' split
  · exact hf
  · exact hf.fail kb.at0 (by rw [lf]; exact kb.at1)
  · exact hf
theorem Fa.epo {s : RS} (h : Fa s) (hs : ROk s) (ok : Int → Bool) : Fa (s.epo ok).1 := by
  have hv := h.vint hs
  have hl := hs.vint.2
  unfold RS.epo
  repeat' split
  · exact hv
  · exact hv.fail hs.at0 (by rw [hl]; exact hs.at1)
  · exact hv
end Go.Proofs.Ytnfagphepkeedaa
end
section
namespace Go.Proofs.Ytnfagphepkeedaa

instance : DecidableEq En := fun a b => decidable_of_iff (a.lk = b.lk ∧ a.data = b.data) ⟨fun ⟨h1, h2⟩ => by cases a; cases b; simp only at h1 h2; rw [h1, h2], fun h => by subst h; exact ⟨rfl, rfl⟩⟩
/-- A batch. -/
structure Bt where
  ep : Int
  base : Int
  en : List En
  deriving DecidableEq
def bt0 : Bt := ⟨0, 0, []⟩
structure Bt.ok (b : Bt) : Prop where
  e0 : 0 ≤ b.ep
  e1 : b.ep < 18446744073709551616
  b0 : 0 ≤ b.base
  b1 : b.base < 18446744073709551616
  en : Ens b.en
def singleL (l : List Lk) : Bool := l.all fun x => decide (x.bk.length ≤ 1)
def singleB (b : Bt) : Bool := b.en.all fun e => singleL e.lk
def fitsN (base n : Int) : Bool := decide (1 ≤ n ∧ n ≤ 16) && fitsB base n
/-- Is a batch well-formed? -/
def rightB (b : Bt) : Bool := epRight b.ep && fitsN b.base b.en.length && decide ((joinE b.en).length ≤ 1048576) && (List.range b.en.length).all fun i => rightE (b.base + i) (b.en.getD i en0)
/-- The reader behind links of one entry ahead at most. -/
def RS.lsing (s : RS) (pos : Int) : RS := if (s.links pos).1.code = 0 ∧ singleL (s.links pos).2 = false then (s.links pos).1.fail 3 s.at_ else (s.links pos).1
structure entNx (base : Int) (acc : List En) (e : En) : Prop where
  lk : Lks e.lk
  rt : rightL (base + acc.length) e.lk = true
  sg : singleL e.lk = true
  data : Bys e.data
  sum : ((joinE acc).length : Int) + e.data.length ≤ 1048576
  pos : base + acc.length < 4611686018427387904
def entF (base : Int) : Fmt En := ⟨fun s acc => if base + acc.length < 4611686018427387904 then (((s.lsing (base + acc.length)).blob (1048576 - (joinE acc).length)).1, ⟨(s.links (base + acc.length)).2, ((s.lsing (base + acc.length)).blob (1048576 - (joinE acc).length)).2⟩) else (s.fail 3 0, en0),
  fun acc e => linksB (base + acc.length) e.lk ++ blobB e.data, fun acc e => entNx base acc e⟩
theorem lsing_keep {s : RS} (h : ROk s) {pos : Int} (p0 : 0 ≤ pos) (p1 : pos < 18446744073709551616) : ROk (s.lsing pos) ∧ (s.lsing pos).l = s.l := by
  obtain ⟨a, b⟩ := links_keep h p0 p1
  unfold RS.lsing
  split
  · exact ⟨a.fail _ _, by rw [fail_l]; exact b⟩
  · exact ⟨a, b⟩
/-- The reader behind a batch that is all, and that. -/
def RS.ents (s : RS) (base : Int) : RS × List En := (entF base).many (s.cnt base 1 16).2.toNat (s.cnt base 1 16).1 []
def RS.unpl (s : RS) : RS × Bt := ((((s.epo epRight).1.epo epPos).1.ents ((s.epo epRight).1.epo epPos).2).1.rest9, ⟨(s.epo epRight).2, ((s.epo epRight).1.epo epPos).2, (((s.epo epRight).1.epo epPos).1.ents ((s.epo epRight).1.epo epPos).2).2⟩)
theorem epo_range {s : RS} (h : ROk s) (ok : Int → Bool) : 0 ≤ (s.epo ok).2 ∧ (s.epo ok).2 < 18446744073709551616 := by
  by_cases hc : (s.epo ok).1.code = 0
  · obtain ⟨_, a, b, _⟩ := epo_is h hc; exact ⟨a, b⟩
  · rw [epo_bad hc]; exact ⟨by decide, by decide⟩
theorem Fa.many {β : Type} {F : Fmt β} (hF : ∀ s acc, Fa s → ROk s → Fa (F.f s acc).1 ∧ ROk (F.f s acc).1) : ∀ (N : Nat) (s : RS) (acc : List β), Fa s → ROk s → Fa (F.many N s acc).1 ∧ ROk (F.many N s acc).1 := by
  intro N
  induction N with
  | zero => intro s acc h k; exact ⟨h, k⟩
  | succ N ih =>
    intro s acc h k
    obtain ⟨a, b⟩ := hF s acc h k
    simp only [Fmt.many]
    split
    · exact ih _ _ a b
    · exact ⟨a, b⟩
theorem Fa.at {s : RS} (h : Fa s) (hs : ROk s) {c : Int} {t : RS} (hl : t.l = s.l) (ht : ROk t) : Fa (s.fail c t.at_) := h.fail ht.at0 (by rw [← hl]; exact ht.at1)
theorem Fa.fall {s : RS} (h : Fa s) (hs : ROk s) (b m : Int) : Fa (s.fall b m).1 := by
  refine (Fa.many (F := fallF b) (fun s acc h hs => ?_) _ _ _ (h.int hs m) (hs.int m).1).1
  simp only [fallF]
  have hv := hs.vint
  split
  · exact ⟨(h.vint hs).at hv.1 hv.2.symm hs, hv.1.fail _ _⟩
  · exact ⟨h.vint hs, hv.1⟩
theorem Fa.links {s : RS} (h : Fa s) (hs : ROk s) {pos : Int} (p1 : pos < 18446744073709551616) : Fa (s.links pos).1 := by
  refine (Fa.many (F := linkF pos) (fun s acc h hs => ?_) _ _ _ (h.int hs 16) (hs.int 16).1).1
  simp only [linkF]
  have hv := hs.vint
  have hh : Fa (s.lkHead acc) ∧ ROk (s.lkHead acc) := by
    unfold RS.lkHead
    split
    · exact ⟨(h.vint hs).at hv.1 hv.2.symm hs, hv.1.fail _ _⟩
    · exact ⟨h.vint hs, hv.1⟩
  exact ⟨hh.1.fall hh.2 pos 4, (fall_keep hh.2 p1 4).1⟩
theorem Fa.cnt {s : RS} (h : Fa s) (hs : ROk s) (base least most : Int) : Fa (s.cnt base least most).1 := by
  have hi := hs.int most
  unfold RS.cnt
  split
  · exact (h.int hs most).at hi.1 hi.2.symm hs
  · exact h.int hs most
theorem Fa.lsing {s : RS} (h : Fa s) (hs : ROk s) {pos : Int} (p0 : 0 ≤ pos) (p1 : pos < 18446744073709551616) : Fa (s.lsing pos) := by
  have hk := links_keep hs p0 p1
  unfold RS.lsing
  split
  · exact (h.links hs p1).at hk.1 hk.2.symm hs
  · exact h.links hs p1
theorem Fa.rest9 {s : RS} (h : Fa s) (hs : ROk s) : Fa s.rest9 := by
  unfold RS.rest9
  split
  · exact h.at hs rfl hs
  · exact h
theorem Fa.ents {s : RS} (h : Fa s) (hs : ROk s) {base : Int} (b0 : 0 ≤ base) : Fa (s.ents base).1 ∧ ROk (s.ents base).1 := by
  have hc := cnt_keep hs base 1 16
  refine Fa.many (F := entF base) (fun s acc h hs => ?_) (s.cnt base 1 16).2.toNat (s.cnt base 1 16).1 [] (h.cnt hs base 1 16) hc.1
  simp only [entF]
  split
  · rename_i hp
    have k := lsing_keep hs (pos := base + acc.length) (by omega) (by omega)
    exact ⟨Fa.blob (Fa.lsing h hs (by omega) (by omega)) k.1 _, (RS.ok.blob k.1 _).1⟩
  · exact ⟨h.fail (Int.le_refl 0) (by omega), hs.fail _ _⟩
theorem Fa.unpl {s : RS} (h : Fa s) (hs : ROk s) : Fa s.unpl.1 := by
  obtain ⟨a, b⟩ := epo_keep hs epRight
  obtain ⟨c, d⟩ := epo_keep a epPos
  have f4 := ((h.epo hs epRight).epo a epPos).ents c (epo_range a epPos).1
  exact f4.1.rest9 f4.2
-- segments of the version 2
structure Sg2 where
  ep : Int
  bt : List Bt
  deriving DecidableEq
def btLast (acc : List Bt) : Bt := acc.getD (acc.length - 1) bt0
/-- May a batch stand behind others? -/
def mayB (ep : Int) (acc : List Bt) (b : Bt) : Bool := decide (b.ep ≤ ep) && (decide (acc.length = 0) || (decide ((btLast acc).ep ≤ b.ep) && decide ((btLast acc).base + (btLast acc).en.length ≤ b.base)))
/-- The reader behind the frame of a batch, and that. -/
def RS.bat (s : RS) (ep : Int) (acc : List Bt) : RS × Bt :=
  if (s.frame 2097152).1.code = 0 then
    (if (RS.new (s.frame 2097152).2).unpl.1.code = 0 then
      (if mayB ep acc (RS.new (s.frame 2097152).2).unpl.2 = true then ((s.frame 2097152).1, (RS.new (s.frame 2097152).2).unpl.2) else ((s.frame 2097152).1.fail 13 s.at_, (RS.new (s.frame 2097152).2).unpl.2))
    else ((s.frame 2097152).1.fail (RS.new (s.frame 2097152).2).unpl.1.code ((s.frame 2097152).1.at_ - 4 - (s.frame 2097152).2.length + (RS.new (s.frame 2097152).2).unpl.1.fat), (RS.new (s.frame 2097152).2).unpl.2))
  else ((s.frame 2097152).1, bt0)
structure batNx (ep : Int) (acc : List Bt) (b : Bt) : Prop where
  ok : b.ok
  rt : rightB b = true
  sg : singleB b = true
  may : mayB ep acc b = true
end Go.Proofs.Ytnfagphepkeedaa
end
section
namespace Go.Proofs.Ytnfagphepkeedaa
open Go.RowKit Go.ChangeShapes Go.WideShapes Go.ChangeAt

/-- All cells of a world lie still. -/
def G0 (W : World) : Gh := ⟨fun b i => W.cell? ⟨b, i, none⟩, fun _ => none, fun _ _ => none⟩
theorem wd0 (W : World) : Wd (G0 W) [] W :=
  ⟨fun b i v h => h, fun i _ => ⟨rfl, fun _ => rfl⟩, fun i xs h => by simp at h, fun j k n h => by simp at h, fun j k n xs h => by simp at h, fun i j b h => by simp [blk] at h⟩
theorem Does.top {P : Program} {f : FuncId} {args : List AV} (h : Does P f args [] (.lit (.bool true)) []) {W : World} {vs : Array Value} (hr : RepL (G0 W) args vs.toList) :
    Calls P f vs W fun r W' => r = .returned (.bool true) ∧ Below W.heap.size W W' := by
  refine (h.2 (G0 W) W vs (wd0 W) hr).mono fun r W' ⟨v, G', e, hv, hl⟩ => ?_
  cases hv
  exact ⟨e, hl.kept.below (fun i _ j => by simp [blk]) (Nat.le_refl _)⟩
theorem RdI.rep {k : IntKind} {W : World} {F : Nat → Prop} {v : Value} {l : List Int} (h : RdI k W F v l) : Rep (G0 W) (.sl .none 1 (ints k l)) v := by
  obtain ⟨A, c, rfl, hc, _, hA⟩ := h
  have hlen := ints_length k l
  obtain ⟨b, o, hb, hcell⟩ : ∃ b o, (0 < l.length → A = some ⟨b, o, none⟩) ∧ ∀ i, i < l.length → W.cell? ⟨b, o + i, none⟩ = some (.int k (l.getD i 0)) := by
    rcases Nat.eq_zero_or_pos l.length with h0 | h0
    · exact ⟨0, 0, fun h => by omega, fun i hi => by omega⟩
    · obtain ⟨b, o, h1, _, h2⟩ := hA h0
      exact ⟨b, o, fun _ => h1, h2⟩
  rw [← hlen]
  refine .sl (b := b) (o := o) (fun i _ => .int k (l.getD i 0)) (by rw [hlen]; exact hc) (fun h => hb (by rw [hlen] at h; exact h)) (fun i x hx => ?_) (fun i j hi hj => ?_) (fun _ _ _ _ => rfl) (fun i j x y hx hy => ?_) trivial
  · simp only [ints, List.getElem?_map, Option.map_eq_some_iff] at hx
    obtain ⟨z, _, rfl⟩ := hx; rfl
  · obtain rfl : j = 0 := by omega
    rw [hlen] at hi
    simpa [G0] using hcell i hi
  · simp only [ints, List.getElem?_map, Option.map_eq_some_iff] at hx
    obtain ⟨z, hz, rfl⟩ := hx
    simp only [AV.cells] at hy
    cases j with
    | zero =>
      simp at hy; subst hy
      have : l.getD i 0 = z := by simp [hz]
      rw [this]; exact .lit _
    | succ j => simp at hy
end Go.Proofs.Ytnfagphepkeedaa
end
section
namespace Go.Proofs.Ytnfagphepkeedaa
open Go.RowKit

end Go.Proofs.Ytnfagphepkeedaa
end
section
namespace Go.Proofs.Ytnfagphepkeedaa
open Go.RowKit

/-- An entry. -/
abbrev enA (e : En) : AV := .agg [slL e.lk, slA .u8 e.data]
def smallE (e : En) : Prop := Smalls e.lk ∧ e.data.length ≤ 100000000
theorem entry_Right0 (pos : Int) (e : En) (he : e.ok) (hm : smallE e) (p0 : 0 ≤ pos) (p1 : pos < 18446744073709551616) : Does Try.prog 48 [uA pos, enA e] [] (bA (rightE pos e)) [] := by
  refine Does.runA Try.func48 b48 n48 Try.ntmps48 ?_; simp only [c48, go_sem, Nat.reduceAdd, Nat.reduceMul, Int.reduceToNat, Nat.reduceLeDiff, Int.reduceLE, Int.reduceLT, ↓reduceIte, Int.reduceBEq, Int.reduceBNe, Int.reduceAdd, Int.reduceSub, Int.reduceMul]; try refine okTr_and rfl ?_
  refine CallK.p (link_Right pos e.lk he.lk hm.1 p0 p1) ?_
  by_cases hr : rightL pos e.lk = true
  · have h : rightE pos e = decide ((e.data.length : Int) ≤ 1048576) := by
      unfold rightE; rw [hr, Bool.true_and, Bool.eq_iff_iff, decide_eq_true_eq, decide_eq_true_eq]; omega
    (simp only [go_sem, Nat.reduceAdd, Nat.reduceMul, Int.reduceToNat, Nat.reduceLeDiff, Int.reduceLE, Int.reduceLT, ↓reduceIte, Int.reduceBEq, Int.reduceBNe, Int.reduceAdd, Int.reduceSub, Int.reduceMul, hr, ints_length, ← h]; try refine okTr_and rfl ?_)
    exact FinK.finA r48 []
  · have hr' : rightL pos e.lk = false := by simpa using hr
    have h : rightE pos e = false := by unfold rightE; rw [hr']; rfl
    (simp only [go_sem, Nat.reduceAdd, Nat.reduceMul, Int.reduceToNat, Nat.reduceLeDiff, Int.reduceLE, Int.reduceLT, ↓reduceIte, Int.reduceBEq, Int.reduceBNe, Int.reduceAdd, Int.reduceSub, Int.reduceMul, hr']; try refine okTr_and rfl ?_)
    ((refine FinK.finB r48 [] ?_ ?_); (· first | with_reducible rfl | (simp [h]; done) | rfl); (· simp [resAL, resA1, loadA, oneOr, h]))
theorem entry_Right (pos : Int) (e : En) (he : e.ok) (hm : smallE e) (p0 : 0 ≤ pos) (p1 : pos < 18446744073709551616) : Ct Try.prog 48 [uA pos, enA e] [] (fun _ => bA (rightE pos e)) [] (fun _ => []) := (entry_Right0 pos e he hm p0 p1).toCt cl cl
/-- A writer behind an entry's head. -/
def WS.ehead (s : WS) (pos : Int) (e : En) : WS := if rightE pos e = true then (s.links pos e.lk).put (vb e.data.length) else s.fail 3
theorem WS.fine.ehead {s : WS} (h : s.fine) (pos : Int) (e : En) : (s.ehead pos e).fine := by
  unfold WS.ehead; split
  · exact (h.links pos e.lk).put _
  · exact h.fail 3
theorem entry_PutHead0 (s : WS) (pos : Int) (e : En) (hs : s.fine) (he : e.ok) (hm : smallE e) (p0 : 0 ≤ pos) (p1 : pos < 18446744073709551616) : Does Try.prog 27 [.ref 0 0, uA pos, enA e] [wob 1 s, wrow s] (.tup []) [wob 1 (s.ehead pos e), wrow (s.ehead pos e)] := by
  have hd := hm.2
  have eu := len_u64 e.data (by omega)
  refine Does.runA Try.func27 b27 n27 Try.ntmps27 ?_; simp only [c27, go_sem, Nat.reduceAdd, Nat.reduceMul, Int.reduceToNat, Nat.reduceLeDiff, Int.reduceLE, Int.reduceLT, ↓reduceIte, Int.reduceBEq, Int.reduceBNe, Int.reduceAdd, Int.reduceSub, Int.reduceMul]; try refine okTr_and rfl ?_
  refine CallK.p (entry_Right pos e he hm p0 p1) ?_
  by_cases hr : rightE pos e = true
  · (simp only [go_sem, Nat.reduceAdd, Nat.reduceMul, Int.reduceToNat, Nat.reduceLeDiff, Int.reduceLE, Int.reduceLT, ↓reduceIte, Int.reduceBEq, Int.reduceBNe, Int.reduceAdd, Int.reduceSub, Int.reduceMul, hr]; try refine okTr_and rfl ?_)
    refine CallK.u2 (link_Put s pos e.lk 0 1 (by decide) hs he.lk hm.1 p0 p1) rfl rfl ?_; (simp only [go_sem, Nat.reduceAdd, Nat.reduceMul, Int.reduceToNat, Nat.reduceLeDiff, Int.reduceLE, Int.reduceLT, ↓reduceIte, Int.reduceBEq, Int.reduceBNe, Int.reduceAdd, Int.reduceSub, Int.reduceMul, ints_length, eu]; try refine okTr_and rfl ?_)
    have hf := hs.links pos e.lk
    refine CallK.u2 (varint_Put (s.links pos e.lk) e.data.length 0 1 (by decide) (by omega) (by omega) hf.ok (hf.room _)) rfl rfl ?_; (simp only [go_sem, Nat.reduceAdd, Nat.reduceMul, Int.reduceToNat, Nat.reduceLeDiff, Int.reduceLE, Int.reduceLT, ↓reduceIte, Int.reduceBEq, Int.reduceBNe, Int.reduceAdd, Int.reduceSub, Int.reduceMul]; try refine okTr_and rfl ?_)
    ((refine FinK.finB r27 [0, 1] ?_ ?_); (· first | with_reducible rfl | (simp [WS.ehead, hr]; done) | rfl); (· simp [resAL, resA1, loadA, oneOr, WS.ehead, hr]))
  · have hr' : rightE pos e = false := by simpa using hr
    (simp only [go_sem, Nat.reduceAdd, Nat.reduceMul, Int.reduceToNat, Nat.reduceLeDiff, Int.reduceLE, Int.reduceLT, ↓reduceIte, Int.reduceBEq, Int.reduceBNe, Int.reduceAdd, Int.reduceSub, Int.reduceMul, hr']; try refine okTr_and rfl ?_)
    refine CallK.u2 (Writer_Fail s 3 0 1 (by decide)) rfl rfl ?_; (simp only [go_sem, Nat.reduceAdd, Nat.reduceMul, Int.reduceToNat, Nat.reduceLeDiff, Int.reduceLE, Int.reduceLT, ↓reduceIte, Int.reduceBEq, Int.reduceBNe, Int.reduceAdd, Int.reduceSub, Int.reduceMul]; try refine okTr_and rfl ?_)
    ((refine FinK.finB r27 [0, 1] ?_ ?_); (· first | with_reducible rfl | (simp [WS.ehead, hr']; done) | rfl); (· simp [resAL, resA1, loadA, oneOr, WS.ehead, hr']))
theorem entry_PutHead (s : WS) (pos : Int) (e : En) (i j : Nat) (h : i ≠ j) (hs : s.fine) (he : e.ok) (hm : smallE e) (p0 : 0 ≤ pos) (p1 : pos < 18446744073709551616) : Ct Try.prog 27 [.ref i 0, uA pos, enA e] [(i, wob j s), (j, wrow s)] (fun _ => .tup []) [(i, wob j (s.ehead pos e)), (j, wrow (s.ehead pos e))] (fun _ => []) := Ct.u2 (entry_PutHead0 s pos e hs he hm p0 p1) i j h cl cl cl cl cl (wob_dead _ _) (wrow_dead _) clo
def sameE (a b : En) : Bool := sameL a.lk b.lk && sameB a.data b.data
theorem sameE_self (e : En) : sameE e e = true := by unfold sameE; rw [sameL_self, same_self]; rfl
theorem ref24_Same0 (a b : En) (hm : Smalls a.lk) (ha : Bys a.data) (hb : Bys b.data) : Does Try.prog 9 [enA a, enA b] [] (bA (sameE a b)) [] := by
  refine Does.runA Try.func9 b9 n9 Try.ntmps9 ?_; simp only [c9, go_sem, Nat.reduceAdd, Nat.reduceMul, Int.reduceToNat, Nat.reduceLeDiff, Int.reduceLE, Int.reduceLT, ↓reduceIte, Int.reduceBEq, Int.reduceBNe, Int.reduceAdd, Int.reduceSub, Int.reduceMul]; try refine okTr_and rfl ?_
  refine CallK.p (ref23_Same a.lk b.lk hm) ?_
  by_cases h : sameL a.lk b.lk = true
  · have e : sameE a b = sameB a.data b.data := by unfold sameE; rw [h]; rfl
    (simp only [go_sem, Nat.reduceAdd, Nat.reduceMul, Int.reduceToNat, Nat.reduceLeDiff, Int.reduceLE, Int.reduceLT, ↓reduceIte, Int.reduceBEq, Int.reduceBNe, Int.reduceAdd, Int.reduceSub, Int.reduceMul, h]; try refine okTr_and rfl ?_)
    refine CallK.p (ref02_Same a.data b.data ha hb) ?_; (simp only [go_sem, Nat.reduceAdd, Nat.reduceMul, Int.reduceToNat, Nat.reduceLeDiff, Int.reduceLE, Int.reduceLT, ↓reduceIte, Int.reduceBEq, Int.reduceBNe, Int.reduceAdd, Int.reduceSub, Int.reduceMul]; try refine okTr_and rfl ?_)
    ((refine FinK.finB r9 [] ?_ ?_); (· first | with_reducible rfl | (simp [e]; done) | rfl); (· simp [resAL, resA1, loadA, oneOr, e]))
  · have h' : sameL a.lk b.lk = false := by simpa using h
    have e : sameE a b = false := by unfold sameE; rw [h']; rfl
    (simp only [go_sem, Nat.reduceAdd, Nat.reduceMul, Int.reduceToNat, Nat.reduceLeDiff, Int.reduceLE, Int.reduceLT, ↓reduceIte, Int.reduceBEq, Int.reduceBNe, Int.reduceAdd, Int.reduceSub, Int.reduceMul, h']; try refine okTr_and rfl ?_)
    ((refine FinK.finB r9 [] ?_ ?_); (· first | with_reducible rfl | (simp [e]; done) | rfl); (· simp [resAL, resA1, loadA, oneOr, e]))
theorem ref24_Same (a b : En) (hm : Smalls a.lk) (ha : Bys a.data) (hb : Bys b.data) : Ct Try.prog 9 [enA a, enA b] [] (fun _ => bA (sameE a b)) [] (fun _ => []) := (ref24_Same0 a b hm ha hb).toCt cl cl
def longE (e : En) : Bool := longL e.lk || decide (500 < (e.data.length : Int))
theorem longE_no {e : En} (h : longE e = false) : smallE e ∧ e.data.length ≤ 500 := by
  unfold longE at h
  rw [Bool.or_eq_false_iff] at h
  have := h.2
  simp only [decide_eq_false_iff_not] at this
  exact ⟨⟨longL_smalls h.1, by omega⟩, by omega⟩
theorem law24_Long0 (e : En) : Does Try.prog 6 [enA e] [] (bA (longE e)) [] := by
  refine Does.runA Try.func6 b6 n6 Try.ntmps6 ?_; simp only [c6, go_sem, Nat.reduceAdd, Nat.reduceMul, Int.reduceToNat, Nat.reduceLeDiff, Int.reduceLE, Int.reduceLT, ↓reduceIte, Int.reduceBEq, Int.reduceBNe, Int.reduceAdd, Int.reduceSub, Int.reduceMul]; try refine okTr_and rfl ?_
  refine CallK.p (law23_Long e.lk) ?_
  by_cases h : longL e.lk = true
  · have he : longE e = true := by unfold longE; rw [h]; rfl
    (simp only [go_sem, Nat.reduceAdd, Nat.reduceMul, Int.reduceToNat, Nat.reduceLeDiff, Int.reduceLE, Int.reduceLT, ↓reduceIte, Int.reduceBEq, Int.reduceBNe, Int.reduceAdd, Int.reduceSub, Int.reduceMul, h]; try refine okTr_and rfl ?_)
    ((refine FinK.finB r6 [] ?_ ?_); (· first | with_reducible rfl | (simp [he]; done) | rfl); (· simp [resAL, resA1, loadA, oneOr, he]))
  · have h' : longL e.lk = false := by simpa using h
    have he : decide (500 < (e.data.length : Int)) = longE e := by unfold longE; rw [h']; rfl
    (simp only [go_sem, Nat.reduceAdd, Nat.reduceMul, Int.reduceToNat, Nat.reduceLeDiff, Int.reduceLE, Int.reduceLT, ↓reduceIte, Int.reduceBEq, Int.reduceBNe, Int.reduceAdd, Int.reduceSub, Int.reduceMul, h', ints_length, he]; try refine okTr_and rfl ?_)
    exact FinK.finA r6 []
theorem law24_Long (e : En) : Ct Try.prog 6 [enA e] [] (fun _ => bA (longE e)) [] (fun _ => []) := (law24_Long0 e).toCt cl cl
set_option maxRecDepth 100000 in
theorem live24_w : (WS.new 9).ehead 10 ⟨[], [7, 8]⟩ = ⟨9, [0, 2], 0⟩ := by kernel_rfl
set_option maxRecDepth 100000 in
theorem live24_0 : Does Try.prog 7 [] [] (bA true) [] := by
  have he : En.ok ⟨[], [7, 8]⟩ := ⟨fun x hx => by simp at hx, by unfold Bys; decide⟩
  have hm : smallE ⟨[], [7, 8]⟩ := ⟨⟨by decide, fun x hx => by simp at hx⟩, by decide⟩
  have f0 : (WS.new 9).fine := WS.fine.new (by decide)
  have hB : Bys [0, 2] := by unfold Bys; decide
  have e4 : ints .u8 [0, 2] = [u8A 0, u8A 2] := rfl
  have wl : (WS.mk 9 [0, 2] 0).bytes = [0, 2] := rfl
  refine Does.runA Try.func7 b7 n7 Try.ntmps7 ?_; simp only [c7, go_sem, Nat.reduceAdd, Nat.reduceMul, Int.reduceToNat, Nat.reduceLeDiff, Int.reduceLE, Int.reduceLT, ↓reduceIte, Int.reduceBEq, Int.reduceBNe, Int.reduceAdd, Int.reduceSub, Int.reduceMul]; try refine okTr_and rfl ?_
  refine CallK.n (pen_New 9) ?_; (simp only [go_sem, Nat.reduceAdd, Nat.reduceMul, Int.reduceToNat, Nat.reduceLeDiff, Int.reduceLE, Int.reduceLT, ↓reduceIte, Int.reduceBEq, Int.reduceBNe, Int.reduceAdd, Int.reduceSub, Int.reduceMul]; try refine okTr_and rfl ?_)
  (repeat ((with_reducible refine And.intro ?_ ?_); (· exact sd)))
  refine CallK.u2 ((entry_PutHead (WS.new 9) 10 ⟨[], [7, 8]⟩ 0 1 (by decide) f0 he hm (by decide) (by decide)).weak (by simp only [List.map_cons, List.map_nil, untag, untag1]; exact (by repeat (first | exact Wa.refl _ | exact WaL.nil | exact Wa.nil | exact Wa.none | refine WaL.cons ?_ ?_ | refine Wa.agg ?_ | refine Wa.slN ?_ | refine Wa.slS ?_ | exact WaL.refl _)))) rfl rfl ?_
  (simp only [go_sem, Nat.reduceAdd, Nat.reduceMul, Int.reduceToNat, Nat.reduceLeDiff, Int.reduceLE, Int.reduceLT, ↓reduceIte, Int.reduceBEq, Int.reduceBNe, Int.reduceAdd, Int.reduceSub, Int.reduceMul, live24_w]; try refine okTr_and rfl ?_)
  refine CallK.r2 (Writer_Bytes (WS.mk 9 [0, 2] 0) _ _ (by decide) (by decide)) rfl rfl ?_; (simp only [go_sem, Nat.reduceAdd, Nat.reduceMul, Int.reduceToNat, Nat.reduceLeDiff, Int.reduceLE, Int.reduceLT, ↓reduceIte, Int.reduceBEq, Int.reduceBNe, Int.reduceAdd, Int.reduceSub, Int.reduceMul, wl]; try refine okTr_and rfl ?_)
  (repeat ((with_reducible refine And.intro ?_ ?_); (· exact sd)))
  refine CallK.p (ref02_Same [0, 2] [0, 2] hB hB) ?_; (simp only [go_sem, Nat.reduceAdd, Nat.reduceMul, Int.reduceToNat, Nat.reduceLeDiff, Int.reduceLE, Int.reduceLT, ↓reduceIte, Int.reduceBEq, Int.reduceBNe, Int.reduceAdd, Int.reduceSub, Int.reduceMul, same_self]; try refine okTr_and rfl ?_)
  exact FinK.finA r7 []
theorem live24 : Ct Try.prog 7 [] [] (fun _ => bA true) [] (fun _ => []) := (live24_0).toCt cl cl
end Go.Proofs.Ytnfagphepkeedaa
end
section
namespace Go.Proofs.Ytnfagphepkeedaa
open Go.RowKit

def ens (l : List En) : List AV := l.map enA
abbrev slE (l : List En) : AV := .sl .none 2 (ens l)
theorem ens_length (l : List En) : (ens l).length = l.length := by simp [ens]
theorem ens_get (l : List En) (k : Nat) (h : k < l.length) : (ens l).getD k .any = enA (l.getD k en0) := by simp [ens, h]
@[simp] theorem ren_ens (ρ : Nat → Nat) (l : List En) : (ens l).map (fun x => x.ren ρ) = ens l := by
  simp [ens, Function.comp_def, ixs_z, ren_ints, ren_lks]
def allE (a b : List En) : Bool := decide (a.length = b.length) && (List.range a.length).all fun i => sameE (a.getD i en0) (b.getD i en0)
theorem link_copied0 (x : Lk) (hn : x.bk.length ≤ 1000000) : Does Try.prog 40 [lkA x] [] (lkA x) [] := by
  refine Does.runA Try.func40 b40 n40 Try.ntmps40 ?_; simp only [c40, go_sem, Nat.reduceAdd, Nat.reduceMul, Int.reduceToNat, Nat.reduceLeDiff, Int.reduceLE, Int.reduceLT, ↓reduceIte, Int.reduceBEq, Int.reduceBNe, Int.reduceAdd, Int.reduceSub, Int.reduceMul]; try refine okTr_and rfl ?_
  (repeat ((with_reducible refine And.intro ?_ ?_); (· exact sd)))
  (simp only [go_sem, Nat.reduceAdd, Nat.reduceMul, Int.reduceToNat, Nat.reduceLeDiff, Int.reduceLE, Int.reduceLT, ↓reduceIte, Int.reduceBEq, Int.reduceBNe, Int.reduceAdd, Int.reduceSub, Int.reduceMul, List.nil_append, ints_length]; try refine okTr_and rfl ?_)
  (refine FinK.unobj 1 rfl ?_; simp only [List.set_cons_zero, List.set_cons_succ, List.map_cons, List.map_nil, untag1_lit, untag1_sl])
  exact FinK.finA r40 []
theorem link_copied (x : Lk) (hn : x.bk.length ≤ 1000000) : Ct Try.prog 40 [lkA x] [] (fun _ => lkA x) [] (fun _ => []) := (link_copied0 x hn).toCt cl cl
theorem link_Copy0 (l : List Lk) (hl : l.length ≤ 1000000) (hn : ∀ x ∈ l, x.bk.length ≤ 1000000) : Does Try.prog 25 [slL l] [] (slL l) [] := by
  refine Does.runA Try.func25 b25 n25 Try.ntmps25 ?_; simp only [c25, go_sem, Nat.reduceAdd, Nat.reduceMul, Int.reduceToNat, Nat.reduceLeDiff, Int.reduceLE, Int.reduceLT, ↓reduceIte, Int.reduceBEq, Int.reduceBNe, Int.reduceAdd, Int.reduceSub, Int.reduceMul, lks_length]; try refine okTr_and rfl ?_
  refine loop_of (α := Nat) (fun k => [.any, .any, .any, .sl (.row 0) 2 (lks (l.take k)), .any, .any, slL l, iA l.length, iA k, .any, .any, .any, .any, .any, .any, .any, .any, .any, .any]) (fun k => [.row 2 (l.take k).length]) (fun k => k ≤ l.length) (fun k => l.length - k) 0 (by simp) ((Wk.row 3 2 rfl (.inr rfl) (by decide)).trans (Wk.to (by simp [lks]) (by simp [leT, lks]))) ?_
  intro k hk
  (simp only [go_sem, Nat.reduceAdd, Nat.reduceMul, Int.reduceToNat, Nat.reduceLeDiff, Int.reduceLE, Int.reduceLT, ↓reduceIte, Int.reduceBEq, Int.reduceBNe, Int.reduceAdd, Int.reduceSub, Int.reduceMul]; try refine okTr_and rfl ?_)
  by_cases hlt : k < l.length
  · have q1 : decide ((k : Int) < (l.length : Int)) = true := decide_eq_true (by omega)
    have ek := i64_succ k (by omega)
    have g := lks_get l k hlt
    have hm : l.getD k lk0 ∈ l := by simp [hlt]
    have ht : lks (l.take k) ++ [lkA (l.getD k lk0)] = lks (l.take (k + 1)) := by
      rw [lks_snoc]; congr 1; rw [List.take_add_one]; simp [hlt]
    have hln : (l.take (k + 1)).length ≤ 1000000 := by rw [List.length_take]; omega
    have hln2 : (l.take k).length + 1 = (l.take (k + 1)).length := by rw [List.length_take, List.length_take]; omega
    (simp only [go_sem, Nat.reduceAdd, Nat.reduceMul, Int.reduceToNat, Nat.reduceLeDiff, Int.reduceLE, Int.reduceLT, ↓reduceIte, Int.reduceBEq, Int.reduceBNe, Int.reduceAdd, Int.reduceSub, Int.reduceMul, q1, g, lks_length, Int.toNat_natCast]; try refine okTr_and rfl ?_)
    (repeat ((with_reducible refine And.intro ?_ ?_); (· exact sd)))
    refine CallK.p (link_copied (l.getD k lk0) (hn _ hm)) ?_; (simp only [go_sem, Nat.reduceAdd, Nat.reduceMul, Int.reduceToNat, Nat.reduceLeDiff, Int.reduceLE, Int.reduceLT, ↓reduceIte, Int.reduceBEq, Int.reduceBNe, Int.reduceAdd, Int.reduceSub, Int.reduceMul, ht, lks_length, hln2, ek]; try refine okTr_and rfl ?_)
    (repeat ((with_reducible refine And.intro ?_ ?_); (· exact sd)))
    exact ⟨k + 1, hlt, by omega, Wk.sel [0] (by simp) rfl (by simp) rfl (by simp [ixs_z]) (by simp [selT, ixs_z, ixs])⟩
  · have q1 : decide ((k : Int) < (l.length : Int)) = false := decide_eq_false (by omega)
    have e : l.take k = l := List.take_of_length_le (by omega)
    (simp only [go_sem, Nat.reduceAdd, Nat.reduceMul, Int.reduceToNat, Nat.reduceLeDiff, Int.reduceLE, Int.reduceLT, ↓reduceIte, Int.reduceBEq, Int.reduceBNe, Int.reduceAdd, Int.reduceSub, Int.reduceMul, q1, e]; try refine okTr_and rfl ?_)
    (refine FinK.untag 2 rfl ?_; simp only [untag1_sl, List.set_cons_zero, List.set_cons_succ])
    exact FinK.finA r25 []
theorem link_Copy (l : List Lk) (hl : l.length ≤ 1000000) (hn : ∀ x ∈ l, x.bk.length ≤ 1000000) : Ct Try.prog 25 [slL l] [] (fun _ => slL l) [] (fun _ => []) := (link_Copy0 l hl hn).toCt cl cl
end Go.Proofs.Ytnfagphepkeedaa
end
section
namespace Go.Proofs.Ytnfagphepkeedaa
open Go.RowKit

end Go.Proofs.Ytnfagphepkeedaa
end
section
section
namespace Go.Proofs.Ytnfagphepkeedaa
open Go.RowKit

end Go.Proofs.Ytnfagphepkeedaa
end
end
section
section
namespace Go.Proofs.Ytnfagphepkeedaa

structure Tk where
  lit : List Int
  off : Int
  len : Int
deriving DecidableEq
def Tk.run (t : Tk) : Bool := decide (t.off = 0 ∧ t.len = 0 ∧ 1 ≤ t.lit.length ∧ t.lit.length ≤ 1048576)
def Tk.copy (t : Tk) : Bool := decide (t.lit.length = 0 ∧ 1 ≤ t.off ∧ t.off ≤ 65536 ∧ 4 ≤ t.len ∧ t.len ≤ 1048576)
def Tk.right (t : Tk) : Bool := t.run || t.copy
def Tk.made (t : Tk) : Int := if t.run = true then t.lit.length else if t.copy = true then t.len else 0
/-- What a token in memory is: its bytes are bytes, its numbers fit. -/
structure Tk.ok (t : Tk) : Prop where
  lit : Bys t.lit
  off0 : -9223372036854775808 ≤ t.off
  off1 : t.off < 9223372036854775808
  len0 : -9223372036854775808 ≤ t.len
  len1 : t.len < 9223372036854775808
end Go.Proofs.Ytnfagphepkeedaa
end
end
section
namespace Go.Proofs.Ytnfagphepkeedaa

section
variable {β : Type} {F : Fmt β}
/-- Things read till nothing is left, or one can't be read. -/
def Fmt.all (F : Fmt β) : Nat → RS → List β → RS × List β
  | 0, s, acc => (s, acc)
  | n + 1, s, acc => if s.code = 0 ∧ 0 < s.left then (if (F.f s acc).1.code = 0 then F.all n (F.f s acc).1 (acc ++ [(F.f s acc).2]) else ((F.f s acc).1, [])) else (s, acc)
theorem left_ge {s : RS} (h : ROk s) : 0 ≤ s.left := by have := h.at1; unfold RS.left; omega
theorem all_done {n : Nat} {s : RS} {acc : List β} (h : ¬ (s.code = 0 ∧ 0 < s.left)) : F.all n s acc = (s, acc) := by
  cases n with
  | zero => rfl
  | succ n => rw [Fmt.all, if_neg h]
theorem all_more (hF : F.Ok) : ∀ (n m : Nat) (s : RS) (acc : List β), ROk s → Wf F.nx [] acc → s.left ≤ n → s.left ≤ m → F.all n s acc = F.all m s acc := by
  intro n
  induction n with
  | zero => intro m s acc h _ h1 h2; rw [all_done (n := m) (by omega)]; rfl
  | succ n ih =>
    intro m s acc h hw h1 h2
    by_cases hc : s.code = 0 ∧ 0 < s.left
    · obtain ⟨k, rfl⟩ : ∃ k, m = k + 1 := ⟨m - 1, by omega⟩
      rw [Fmt.all, Fmt.all, if_pos hc, if_pos hc]
      by_cases hn : (F.f s acc).1.code = 0
      · rw [if_pos hn, if_pos hn]
        obtain ⟨k1, k2⟩ := hF.keep s acc h hw
        obtain ⟨r1, r2, r3, r4⟩ := hF.read s acc h hw hn
        have hl : (F.f s acc).1.left < s.left := by unfold RS.left; rw [k2]; omega
        exact ih k _ _ k1 (wf_snoc.2 ⟨hw, by simpa using r2⟩) (by omega) (by omega)
      · rw [if_neg hn, if_neg hn]
    · rw [all_done hc, all_done hc]
/-- All that is left. -/
def Fmt.rest (F : Fmt β) (s : RS) (acc : List β) : RS × List β := F.all s.left.toNat s acc
theorem rest_step (hF : F.Ok) {s : RS} {acc : List β} (h : ROk s) (hw : Wf F.nx [] acc) (hc : s.code = 0) (hl : 0 < s.left) (hn : (F.f s acc).1.code = 0) : F.rest s acc = F.rest (F.f s acc).1 (acc ++ [(F.f s acc).2]) := by
  obtain ⟨k1, k2⟩ := hF.keep s acc h hw
  obtain ⟨r1, r2, r3, r4⟩ := hF.read s acc h hw hn
  have hl2 : (F.f s acc).1.left < s.left := by unfold RS.left; rw [k2]; omega
  have hge := left_ge k1
  unfold Fmt.rest
  obtain ⟨k, hk⟩ : ∃ k, s.left.toNat = k + 1 := ⟨s.left.toNat - 1, by omega⟩
  rw [hk, Fmt.all, if_pos ⟨hc, hl⟩, if_pos hn]
  exact all_more hF _ _ _ _ k1 (wf_snoc.2 ⟨hw, by simpa using r2⟩) (by omega) (by omega)
/-- What is borne at each round. -/
structure Fmt.Al (F : Fmt β) (s : RS) (a : RS × List β) : Prop where
  ok : ROk a.1
  l : a.1.l = s.l
  adv : (a.2.length : Int) ≤ a.1.at_
  code : a.1.code = 0
  wf : Wf F.nx [] a.2
  res : F.rest a.1 a.2 = F.rest s []
  byt : s.l.take a.1.at_.toNat = s.l.take s.at_.toNat ++ encs F.enc [] a.2
theorem Fmt.Al.next {s t : RS} {acc : List β} (hF : F.Ok) (h : F.Al s (t, acc)) (hl : 0 < t.left) (hc : (F.f t acc).1.code = 0) : F.Al s ((F.f t acc).1, acc ++ [(F.f t acc).2]) ∧ (F.f t acc).1.left < t.left := by
  obtain ⟨h1, h2, h3, h4, h5, h6, h7⟩ := h
  simp only at h1 h2 h3 h4 h5 h6 h7
  obtain ⟨k1, k2⟩ := hF.keep t acc h1 h5
  obtain ⟨r1, r2, r3, r4⟩ := hF.read t acc h1 h5 hc
  refine ⟨⟨k1, k2.trans h2, by simp; omega, hc, wf_snoc.2 ⟨h5, by simpa using r2⟩, ?_, ?_⟩, by unfold RS.left; rw [k2]; omega⟩
  · rw [← h6]; exact (rest_step hF h1 h5 h4 hl hc).symm
  · rw [h2] at r4
    rw [r4, h7, encs_snoc]
    simp
theorem Fmt.Al.len {s t : RS} {acc : List β} (h : F.Al s (t, acc)) : acc.length ≤ s.l.length := by
  have h1 := h.ok.at1
  have h2 := h.l
  have h3 := h.adv
  simp only at h1 h2 h3
  rw [h2] at h1
  omega
end

end Go.Proofs.Ytnfagphepkeedaa
end
section
namespace Go.Proofs.Ytnfagphepkeedaa
open Go.RowKit

/-- A token, tokens. -/
abbrev tkA (t : Tk) : AV := .agg [slA .u8 t.lit, iA t.off, iA t.len]
def tks (l : List Tk) : List AV := l.map tkA
@[simp] theorem ren_tks (ρ : Nat → Nat) (l : List Tk) : (tks l).map (fun x => x.ren ρ) = tks l := by simp [tks, ixs_z]
@[simp] theorem ren_ints_t (ρ : Nat → Nat) (k : IntKind) (l : List Int) : (ints k l).map (fun x => x.ren ρ) = ints k l := ren_ints ρ k l
end Go.Proofs.Ytnfagphepkeedaa
end
section
namespace Go.Proofs.Ytnfagphepkeedaa
open Go.RowKit

end Go.Proofs.Ytnfagphepkeedaa
end
section
namespace Go.Proofs.Ytnfagphepkeedaa

end Go.Proofs.Ytnfagphepkeedaa
end
section
namespace Go.Proofs.Ytnfagphepkeedaa
open Go.RowKit

end Go.Proofs.Ytnfagphepkeedaa
end
section
namespace Go.Proofs.Ytnfagphepkeedaa
open Go.RowKit

end Go.Proofs.Ytnfagphepkeedaa
end
section
namespace Go.Proofs.Ytnfagphepkeedaa
open Go.RowKit

theorem bytes_Equal0 (l m : List Int) (hl : Bys l) (hm : Bys m) : Does Try.prog 30 [slA .u8 l, slA .u8 m] [] (bA (sameB l m)) [] := by
  refine Does.runA Try.func30 b30 n30 Try.ntmps30 ?_; simp only [c30, go_sem, Nat.reduceAdd, Nat.reduceMul, Int.reduceToNat, Nat.reduceLeDiff, Int.reduceLE, Int.reduceLT, ↓reduceIte, Int.reduceBEq, Int.reduceBNe, Int.reduceAdd, Int.reduceSub, Int.reduceMul, ints_u8, bytes_same hl hm]; try refine okTr_and rfl ?_
  exact FinK.finA r30 []
theorem bytes_Equal (l m : List Int) (hl : Bys l) (hm : Bys m) : Ct Try.prog 30 [slA .u8 l, slA .u8 m] [] (fun _ => bA (sameB l m)) [] (fun _ => []) := (bytes_Equal0 l m hl hm).toCt cl cl
end Go.Proofs.Ytnfagphepkeedaa
end
section
namespace Go.Proofs.Ytnfagphepkeedaa
open Go.RowKit

abbrev oA (x : O1) : AV := .agg [uA x.st, uA x.bk, bA x.hb, slA .u8 x.data]
def o1s (l : List O1) : List AV := l.map oA
@[simp] theorem ren_o1s (ρ : Nat → Nat) (l : List O1) : (o1s l).map (fun x => x.ren ρ) = o1s l := by
  simp [o1s, Function.comp_def, ixs_z, ren_ints]
structure Small1 (u : Sg1) : Prop where
  b0 : 0 ≤ u.base
  b1 : u.base < 18446744073709551616
  n : u.en.length ≤ 1000000
  s : sumO u.en ≤ 100000000000
end Go.Proofs.Ytnfagphepkeedaa
end
section
namespace Go.Proofs.Ytnfagphepkeedaa
open Go.RowKit

end Go.Proofs.Ytnfagphepkeedaa
end
section
namespace Go.Proofs.Ytnfagphepkeedaa
variable {P : Program} {S : List AObj} {K : KT} {f : FuncId} {args args₀ : List AV}

end Go.Proofs.Ytnfagphepkeedaa
end
section
namespace Go.Proofs.Ytnfagphepkeedaa
open Go.RowKit

abbrev wA (n : Nat) : AV := .lit (.int .u32 (n : Int))
/-- What each half of a byte makes of the state, as far as it is filled in. -/
def tabN (k : Nat) : List AV := (List.range 16).map fun i => wA (if i < k then csteps 4 i else 0)
@[simp] theorem tabN_ren (ρ : Nat → Nat) (k : Nat) : (tabN k).map (fun x => x.ren ρ) = tabN k := by simp [tabN, ixs_z]
def tab : List AV := tabN 16
@[simp] theorem tab_ren (ρ : Nat → Nat) : tab.map (fun x => x.ren ρ) = tab := tabN_ren ρ 16
end Go.Proofs.Ytnfagphepkeedaa
end
section
namespace Go.Proofs.Ytnfagphepkeedaa
open Go.RowKit

/-- A writer behind a frame. -/
def WS.frame (s : WS) (p : List Int) : WS := if 2097152 < (p.length : Int) then s.fail 2 else ((s.put (vb p.length)).put p).put (lowBytes 4 (crcI p))
theorem WS.fine.frame {s : WS} (h : s.fine) (p : List Int) : (s.frame p).fine := by
  unfold WS.frame
  split
  · exact h.fail 2
  · exact ((h.put _).put _).put _
end Go.Proofs.Ytnfagphepkeedaa
end
section
namespace Go.Proofs.Ytnfagphepkeedaa
open Go.RowKit

end Go.Proofs.Ytnfagphepkeedaa
end
section
namespace Go.Proofs.Ytnfagphepkeedaa
open Go.RowKit

end Go.Proofs.Ytnfagphepkeedaa
end
section
namespace Go.Proofs.Ytnfagphepkeedaa
open Go.RowKit

end Go.Proofs.Ytnfagphepkeedaa
end
section
namespace Go.Proofs.Ytnfagphepkeedaa
open Go.RowKit

end Go.Proofs.Ytnfagphepkeedaa
end
section
namespace Go.Proofs.Ytnfagphepkeedaa
open Go.RowKit

theorem ROk.rest9 {s : RS} (h : ROk s) : ROk s.rest9 := by
  unfold RS.rest9; split
  · exact h.fail _ _
  · exact h
end Go.Proofs.Ytnfagphepkeedaa
end
section
namespace Go.Proofs.Ytnfagphepkeedaa
open Go.RowKit

end Go.Proofs.Ytnfagphepkeedaa
end
section
namespace Go.Proofs.Ytnfagphepkeedaa
open Go.RowKit

end Go.Proofs.Ytnfagphepkeedaa
end
section
namespace Go.Proofs.Ytnfagphepkeedaa
open Go.RowKit

end Go.Proofs.Ytnfagphepkeedaa
end
section
namespace Go.Proofs.Ytnfagphepkeedaa
open Go.RowKit

end Go.Proofs.Ytnfagphepkeedaa
end
section
namespace Go.Proofs.Ytnfagphepkeedaa
open Go.RowKit

end Go.Proofs.Ytnfagphepkeedaa
end
section
namespace Go.Proofs.Ytnfagphepkeedaa
open Go.RowKit

section
variable {P : Program} {S : List AObj} {K : KT} {f : FuncId} {args args₀ : List AV}
end
end Go.Proofs.Ytnfagphepkeedaa
end
section
namespace Go.Proofs.Ytnfagphepkeedaa
open Go.RowKit

end Go.Proofs.Ytnfagphepkeedaa
end
section
namespace Go.Proofs.Ytnfagphepkeedaa
open Go.RowKit

end Go.Proofs.Ytnfagphepkeedaa
end
section
namespace Go.Proofs.Ytnfagphepkeedaa
open Go.RowKit

set_option maxRecDepth 100000 in
theorem slices_EqualU0 (a b : List Int) (ha : a.length ≤ 1000000) : Does Try.prog 47 [slU a, slU b] [] (bA (sameB a b)) [] := by
  have hno : ¬ a = b → sameB a b = false := fun h => by simp [sameB, h]
  refine Does.runA Try.func47 b47 n47 Try.ntmps47 ?_; simp only [c47, go_sem, Nat.reduceAdd, Nat.reduceMul, Int.reduceToNat, Nat.reduceLeDiff, Int.reduceLE, Int.reduceLT, ↓reduceIte, Int.reduceBEq, Int.reduceBNe, Int.reduceAdd, Int.reduceSub, Int.reduceMul, ints_length]; try refine okTr_and rfl ?_
  by_cases hlen : (a.length : Int) = b.length
  · have q0 : ((a.length : Int) != (b.length : Int)) = false := by simpa using hlen
    (simp only [go_sem, Nat.reduceAdd, Nat.reduceMul, Int.reduceToNat, Nat.reduceLeDiff, Int.reduceLE, Int.reduceLT, ↓reduceIte, Int.reduceBEq, Int.reduceBNe, Int.reduceAdd, Int.reduceSub, Int.reduceMul, q0, ints_length]; try refine okTr_and rfl ?_)
    refine loop_of (α := Nat) (fun k => [slU a, slU b, .any, .any, .any, .any, .any, .any, .any, .any, .any, .any, iA a.length, iA k, .any, .any, .any, .any, .any, .any, .any, .any, .any, .any, .any, .any]) (fun _ => []) (fun k => k ≤ a.length ∧ ∀ i, i < k → a.getD i 0 = b.getD i 0) (fun k => a.length - k) 0 ⟨by simp, fun i hi => by omega⟩ (Wk.to (by simp) (by simp [leT])) ?_
    rintro k ⟨hk, hall⟩
    (simp only [go_sem, Nat.reduceAdd, Nat.reduceMul, Int.reduceToNat, Nat.reduceLeDiff, Int.reduceLE, Int.reduceLT, ↓reduceIte, Int.reduceBEq, Int.reduceBNe, Int.reduceAdd, Int.reduceSub, Int.reduceMul, ints_length]; try refine okTr_and rfl ?_)
    by_cases hlt : k < a.length
    · have q1 : decide ((k : Int) < (a.length : Int)) = true := decide_eq_true (by omega)
      have g1 := ints_getD .u64 a k hlt
      have g2 := ints_getD .u64 b k (by omega)
      have ei := i64_succ k (by omega)
      by_cases he : a.getD k 0 = b.getD k 0
      · have q2 : (a.getD k 0 != b.getD k 0) = false := by simpa using he
        (simp only [go_sem, Nat.reduceAdd, Nat.reduceMul, Int.reduceToNat, Nat.reduceLeDiff, Int.reduceLE, Int.reduceLT, ↓reduceIte, Int.reduceBEq, Int.reduceBNe, Int.reduceAdd, Int.reduceSub, Int.reduceMul, q1, Int.toNat_natCast, g1, g2, ints_length, q2, ei]; try refine okTr_and rfl ?_)
        (repeat ((with_reducible refine And.intro ?_ ?_); (· exact sd)))
        exact ⟨k + 1, ⟨hlt, fun i hi => by
          rcases Nat.lt_or_ge i k with h | h
          · exact hall i h
          · obtain rfl : i = k := by omega
            exact he⟩, by omega, Wk.to (by simp) (by simp [leT])⟩
      · have q2 : (a.getD k 0 != b.getD k 0) = true := by simpa using he
        have e := hno (by rintro rfl; exact he rfl)
        (simp only [go_sem, Nat.reduceAdd, Nat.reduceMul, Int.reduceToNat, Nat.reduceLeDiff, Int.reduceLE, Int.reduceLT, ↓reduceIte, Int.reduceBEq, Int.reduceBNe, Int.reduceAdd, Int.reduceSub, Int.reduceMul, q1, Int.toNat_natCast, g1, g2, ints_length, q2]; try refine okTr_and rfl ?_)
        (repeat ((with_reducible refine And.intro ?_ ?_); (· exact sd)))
        ((refine FinK.finB r47 [] ?_ ?_); (· first | with_reducible rfl | (simp [e]; done) | rfl); (· simp [resAL, resA1, loadA, oneOr, e]))
    · have q1 : decide ((k : Int) < (a.length : Int)) = false := decide_eq_false (by omega)
      have e : sameB a b = true := by
        simp only [sameB, decide_eq_true_eq]
        exact List.ext_getElem (by omega) fun i h1 h2 => by
          have := hall i (by omega)
          simpa [h1, h2] using this
      (simp only [go_sem, Nat.reduceAdd, Nat.reduceMul, Int.reduceToNat, Nat.reduceLeDiff, Int.reduceLE, Int.reduceLT, ↓reduceIte, Int.reduceBEq, Int.reduceBNe, Int.reduceAdd, Int.reduceSub, Int.reduceMul, q1]; try refine okTr_and rfl ?_)
      ((refine FinK.finB r47 [] ?_ ?_); (· first | with_reducible rfl | (simp [e]; done) | rfl); (· simp [resAL, resA1, loadA, oneOr, e]))
  · have q0 : ((a.length : Int) != (b.length : Int)) = true := by simpa using hlen
    have e := hno (by rintro rfl; exact hlen rfl)
    (simp only [go_sem, Nat.reduceAdd, Nat.reduceMul, Int.reduceToNat, Nat.reduceLeDiff, Int.reduceLE, Int.reduceLT, ↓reduceIte, Int.reduceBEq, Int.reduceBNe, Int.reduceAdd, Int.reduceSub, Int.reduceMul, q0]; try refine okTr_and rfl ?_)
    ((refine FinK.finB r47 [] ?_ ?_); (· first | with_reducible rfl | (simp [e]; done) | rfl); (· simp [resAL, resA1, loadA, oneOr, e]))
theorem slices_EqualU (a b : List Int) (ha : a.length ≤ 1000000) : Ct Try.prog 47 [slU a, slU b] [] (fun _ => bA (sameB a b)) [] (fun _ => []) := (slices_EqualU0 a b ha).toCt cl cl
theorem link_Same10 (x y : Lk) (hn : x.bk.length ≤ 1000000) : Does Try.prog 46 [lkA x, lkA y] [] (bA (decide (x = y))) [] := by
  refine Does.runA Try.func46 b46 n46 Try.ntmps46 ?_; simp only [c46, go_sem, Nat.reduceAdd, Nat.reduceMul, Int.reduceToNat, Nat.reduceLeDiff, Int.reduceLE, Int.reduceLT, ↓reduceIte, Int.reduceBEq, Int.reduceBNe, Int.reduceAdd, Int.reduceSub, Int.reduceMul]; try refine okTr_and rfl ?_
  by_cases c0 : x.st = y.st
  · have q0 : (x.st == y.st) = true := by simpa using c0
    have e : sameB x.bk y.bk = decide (x = y) := by
      unfold sameB
      rw [Bool.eq_iff_iff, decide_eq_true_eq, decide_eq_true_eq]
      cases x; cases y; simp only at c0; simp [c0]
    (simp only [go_sem, Nat.reduceAdd, Nat.reduceMul, Int.reduceToNat, Nat.reduceLeDiff, Int.reduceLE, Int.reduceLT, ↓reduceIte, Int.reduceBEq, Int.reduceBNe, Int.reduceAdd, Int.reduceSub, Int.reduceMul, q0]; try refine okTr_and rfl ?_)
    refine CallK.p (slices_EqualU x.bk y.bk hn) ?_; (simp only [go_sem, Nat.reduceAdd, Nat.reduceMul, Int.reduceToNat, Nat.reduceLeDiff, Int.reduceLE, Int.reduceLT, ↓reduceIte, Int.reduceBEq, Int.reduceBNe, Int.reduceAdd, Int.reduceSub, Int.reduceMul]; try refine okTr_and rfl ?_)
    ((refine FinK.finB r46 [] ?_ ?_); (· first | with_reducible rfl | (simp [e]; done) | rfl); (· simp [resAL, resA1, loadA, oneOr, e]))
  · have q0 : (x.st == y.st) = false := by simpa using c0
    have e : decide (x = y) = false := by simp only [decide_eq_false_iff_not]; rintro rfl; exact c0 rfl
    (simp only [go_sem, Nat.reduceAdd, Nat.reduceMul, Int.reduceToNat, Nat.reduceLeDiff, Int.reduceLE, Int.reduceLT, ↓reduceIte, Int.reduceBEq, Int.reduceBNe, Int.reduceAdd, Int.reduceSub, Int.reduceMul, q0]; try refine okTr_and rfl ?_)
    ((refine FinK.finB r46 [] ?_ ?_); (· first | with_reducible rfl | (simp [e]; done) | rfl); (· simp [resAL, resA1, loadA, oneOr, e]))
theorem link_Same1 (x y : Lk) (hn : x.bk.length ≤ 1000000) : Ct Try.prog 46 [lkA x, lkA y] [] (fun _ => bA (decide (x = y))) [] (fun _ => []) := (link_Same10 x y hn).toCt cl cl
set_option maxRecDepth 100000 in
theorem EqualFuncLk0 (f : FuncId) (eq : Lk → Lk → Bool) (he : ∀ x y, eq x y = true ↔ x = y) (a b : List Lk) (hf : ∀ x ∈ a, ∀ y ∈ b, Ct Try.prog f [lkA x, lkA y] [] (fun _ => bA (eq x y)) [] (fun _ => [])) (eqL : Bool) (hL : eqL = true ↔ a = b) (hn : a.length ≤ 1000000) : Does Try.prog 45 [slL a, slL b, .fn f [] []] [] (bA eqL) [] := by
  have hno : ¬ a = b → eqL = false := fun h => by
    cases hq : eqL with
    | false => rfl
    | true => exact absurd (hL.1 hq) h
  refine Does.runA Try.func45 b45 n45 Try.ntmps45 ?_; simp only [c45, go_sem, Nat.reduceAdd, Nat.reduceMul, Int.reduceToNat, Nat.reduceLeDiff, Int.reduceLE, Int.reduceLT, ↓reduceIte, Int.reduceBEq, Int.reduceBNe, Int.reduceAdd, Int.reduceSub, Int.reduceMul, lks_length]; try refine okTr_and rfl ?_
  by_cases hlen : (a.length : Int) = b.length
  · have q0 : ((a.length : Int) != (b.length : Int)) = false := by simpa using hlen
    (simp only [go_sem, Nat.reduceAdd, Nat.reduceMul, Int.reduceToNat, Nat.reduceLeDiff, Int.reduceLE, Int.reduceLT, ↓reduceIte, Int.reduceBEq, Int.reduceBNe, Int.reduceAdd, Int.reduceSub, Int.reduceMul, q0, lks_length]; try refine okTr_and rfl ?_)
    refine loop_of (α := Nat) (fun k => [.any, slL b, .fn f [] [], .any, .any, .any, .any, .any, .any, .any, .any, .any, .any, .any, .any, slL a, iA a.length, iA k, .any, .any, .any, .any, .any, .any, .any, .any, .any, .any, .any, .any, .any, .any]) (fun _ => []) (fun k => k ≤ a.length ∧ ∀ i, i < k → a.getD i lk0 = b.getD i lk0) (fun k => a.length - k) 0 ⟨by simp, fun i hi => by omega⟩ (Wk.to (by simp) (by simp [leT])) ?_
    rintro k ⟨hk, hall⟩
    (simp only [go_sem, Nat.reduceAdd, Nat.reduceMul, Int.reduceToNat, Nat.reduceLeDiff, Int.reduceLE, Int.reduceLT, ↓reduceIte, Int.reduceBEq, Int.reduceBNe, Int.reduceAdd, Int.reduceSub, Int.reduceMul, lks_length]; try refine okTr_and rfl ?_)
    by_cases hlt : k < a.length
    · have q1 : decide ((k : Int) < (a.length : Int)) = true := decide_eq_true (by omega)
      have g1 := lks_get a k hlt
      have g2 := lks_get b k (by omega)
      have ei := i64_succ k (by omega)
      have m1 : a.getD k lk0 ∈ a := by simp [hlt]
      have m2 : b.getD k lk0 ∈ b := by
        have : k < b.length := by omega
        simp [this]
      have hx := hf _ m1 _ m2
      obtain ⟨x, ex⟩ : ∃ x, a.getD k lk0 = x := ⟨_, rfl⟩
      obtain ⟨y, ey⟩ : ∃ y, b.getD k lk0 = y := ⟨_, rfl⟩
      rw [ex] at g1 hx; rw [ey] at g2 hx
      (simp only [go_sem, Nat.reduceAdd, Nat.reduceMul, Int.reduceToNat, Nat.reduceLeDiff, Int.reduceLE, Int.reduceLT, ↓reduceIte, Int.reduceBEq, Int.reduceBNe, Int.reduceAdd, Int.reduceSub, Int.reduceMul, q1, g1, lks_length, Int.toNat_natCast]; try refine okTr_and rfl ?_)
      (repeat ((with_reducible refine And.intro ?_ ?_); (· exact sd)))
      (simp only [go_sem, Nat.reduceAdd, Nat.reduceMul, Int.reduceToNat, Nat.reduceLeDiff, Int.reduceLE, Int.reduceLT, ↓reduceIte, Int.reduceBEq, Int.reduceBNe, Int.reduceAdd, Int.reduceSub, Int.reduceMul, g2, lks_length, Int.toNat_natCast]; try refine okTr_and rfl ?_)
      (repeat ((with_reducible refine And.intro ?_ ?_); (· exact sd)))
      refine CallK.p (hx) ?_
      cases hq : eq x y with
      | true =>
        have hxy := (he x y).1 hq
        (simp only [go_sem, Nat.reduceAdd, Nat.reduceMul, Int.reduceToNat, Nat.reduceLeDiff, Int.reduceLE, Int.reduceLT, ↓reduceIte, Int.reduceBEq, Int.reduceBNe, Int.reduceAdd, Int.reduceSub, Int.reduceMul, hq, ei]; try refine okTr_and rfl ?_)
        exact ⟨k + 1, ⟨hlt, fun i hi => by
          rcases Nat.lt_or_ge i k with h | h
          · exact hall i h
          · obtain rfl : i = k := by omega
            rw [ex, ey, hxy]⟩, by omega, Wk.sel [] (by simp) rfl (by simp) rfl (by simp) (by simp [selT, ixs_z])⟩
      | false =>
        have hne := hno (by rintro rfl; rw [ex] at ey; rw [(he x y).2 ey] at hq; cases hq)
        (simp only [go_sem, Nat.reduceAdd, Nat.reduceMul, Int.reduceToNat, Nat.reduceLeDiff, Int.reduceLE, Int.reduceLT, ↓reduceIte, Int.reduceBEq, Int.reduceBNe, Int.reduceAdd, Int.reduceSub, Int.reduceMul, hq]; try refine okTr_and rfl ?_)
        ((refine FinK.finB r45 [] ?_ ?_); (· first | with_reducible rfl | (simp [hne]; done) | rfl); (· simp [resAL, resA1, loadA, oneOr, hne]))
    · have q1 : decide ((k : Int) < (a.length : Int)) = false := decide_eq_false (by omega)
      have hyes : eqL = true := hL.2 (List.ext_getElem (by omega) fun i h1 h2 => by
        have := hall i (by omega)
        simpa [h1, h2] using this)
      (simp only [go_sem, Nat.reduceAdd, Nat.reduceMul, Int.reduceToNat, Nat.reduceLeDiff, Int.reduceLE, Int.reduceLT, ↓reduceIte, Int.reduceBEq, Int.reduceBNe, Int.reduceAdd, Int.reduceSub, Int.reduceMul, q1]; try refine okTr_and rfl ?_)
      ((refine FinK.finB r45 [] ?_ ?_); (· first | with_reducible rfl | (simp [hyes]; done) | rfl); (· simp [resAL, resA1, loadA, oneOr, hyes]))
  · have q0 : ((a.length : Int) != (b.length : Int)) = true := by simpa using hlen
    have hne := hno (by rintro rfl; exact hlen rfl)
    (simp only [go_sem, Nat.reduceAdd, Nat.reduceMul, Int.reduceToNat, Nat.reduceLeDiff, Int.reduceLE, Int.reduceLT, ↓reduceIte, Int.reduceBEq, Int.reduceBNe, Int.reduceAdd, Int.reduceSub, Int.reduceMul, q0]; try refine okTr_and rfl ?_)
    ((refine FinK.finB r45 [] ?_ ?_); (· first | with_reducible rfl | (simp [hne]; done) | rfl); (· simp [resAL, resA1, loadA, oneOr, hne]))
theorem EqualFuncLk (f : FuncId) (eq : Lk → Lk → Bool) (he : ∀ x y, eq x y = true ↔ x = y) (a b : List Lk) (hf : ∀ x ∈ a, ∀ y ∈ b, Ct Try.prog f [lkA x, lkA y] [] (fun _ => bA (eq x y)) [] (fun _ => [])) (eqL : Bool) (hL : eqL = true ↔ a = b) (hn : a.length ≤ 1000000) : Ct Try.prog 45 [slL a, slL b, .fn f [] []] [] (fun _ => bA eqL) [] (fun _ => []) := (EqualFuncLk0 f eq he a b hf eqL hL hn).toCt cl cl

theorem link_Same0 (a b : List Lk) (hm : Smalls a) : Does Try.prog 24 [slL a, slL b] [] (bA (sameL a b)) [] := by
  refine Does.runA Try.func24 b24 n24 Try.ntmps24 ?_; simp only [c24, go_sem, Nat.reduceAdd, Nat.reduceMul, Int.reduceToNat, Nat.reduceLeDiff, Int.reduceLE, Int.reduceLT, ↓reduceIte, Int.reduceBEq, Int.reduceBNe, Int.reduceAdd, Int.reduceSub, Int.reduceMul]; try refine okTr_and rfl ?_
  refine CallK.p (EqualFuncLk 46 (fun x y => decide (x = y)) (fun x y => by simp) a b (fun x hx y hy => link_Same1 x y (hm.2 x hx)) (sameL a b) (by simp [sameL]) hm.1) ?_; (simp only [go_sem, Nat.reduceAdd, Nat.reduceMul, Int.reduceToNat, Nat.reduceLeDiff, Int.reduceLE, Int.reduceLT, ↓reduceIte, Int.reduceBEq, Int.reduceBNe, Int.reduceAdd, Int.reduceSub, Int.reduceMul]; try refine okTr_and rfl ?_)
  exact FinK.finA r24 []
theorem link_Same (a b : List Lk) (hm : Smalls a) : Ct Try.prog 24 [slL a, slL b] [] (fun _ => bA (sameL a b)) [] (fun _ => []) := (link_Same0 a b hm).toCt cl cl
theorem sameE_iff (a b : En) : sameE a b = true ↔ a = b := by
  unfold sameE sameL sameB
  rw [Bool.and_eq_true, decide_eq_true_eq, decide_eq_true_eq]
  exact ⟨fun ⟨h1, h2⟩ => by cases a; cases b; simp only at h1 h2; rw [h1, h2], fun h => by subst h; exact ⟨rfl, rfl⟩⟩
theorem allE_iff (a b : List En) : allE a b = true ↔ a = b := by
  unfold allE
  rw [Bool.and_eq_true, decide_eq_true_eq, List.all_eq_true]
  constructor
  · rintro ⟨h1, h2⟩
    exact List.ext_getElem h1 fun i h3 h4 => by
      have := (sameE_iff _ _).1 (h2 i (List.mem_range.2 h3))
      simpa [h3, h4] using this
  · rintro rfl
    exact ⟨rfl, fun i _ => (sameE_iff _ _).2 rfl⟩
theorem entry_Same0 (a b : En) (hm : Smalls a.lk) (ha : Bys a.data) (hb : Bys b.data) : Does Try.prog 10 [enA a, enA b] [] (bA (sameE a b)) [] := by
  refine Does.runA Try.func10 b10 n10 Try.ntmps10 ?_; simp only [c10, go_sem, Nat.reduceAdd, Nat.reduceMul, Int.reduceToNat, Nat.reduceLeDiff, Int.reduceLE, Int.reduceLT, ↓reduceIte, Int.reduceBEq, Int.reduceBNe, Int.reduceAdd, Int.reduceSub, Int.reduceMul]; try refine okTr_and rfl ?_
  refine CallK.p (link_Same a.lk b.lk hm) ?_
  by_cases h : sameL a.lk b.lk = true
  · have e : sameE a b = sameB a.data b.data := by unfold sameE; rw [h]; rfl
    (simp only [go_sem, Nat.reduceAdd, Nat.reduceMul, Int.reduceToNat, Nat.reduceLeDiff, Int.reduceLE, Int.reduceLT, ↓reduceIte, Int.reduceBEq, Int.reduceBNe, Int.reduceAdd, Int.reduceSub, Int.reduceMul, h]; try refine okTr_and rfl ?_)
    refine CallK.p (bytes_Equal a.data b.data ha hb) ?_; (simp only [go_sem, Nat.reduceAdd, Nat.reduceMul, Int.reduceToNat, Nat.reduceLeDiff, Int.reduceLE, Int.reduceLT, ↓reduceIte, Int.reduceBEq, Int.reduceBNe, Int.reduceAdd, Int.reduceSub, Int.reduceMul]; try refine okTr_and rfl ?_)
    ((refine FinK.finB r10 [] ?_ ?_); (· first | with_reducible rfl | (simp [e]; done) | rfl); (· simp [resAL, resA1, loadA, oneOr, e]))
  · have h' : sameL a.lk b.lk = false := by simpa using h
    have e : sameE a b = false := by unfold sameE; rw [h']; rfl
    (simp only [go_sem, Nat.reduceAdd, Nat.reduceMul, Int.reduceToNat, Nat.reduceLeDiff, Int.reduceLE, Int.reduceLT, ↓reduceIte, Int.reduceBEq, Int.reduceBNe, Int.reduceAdd, Int.reduceSub, Int.reduceMul, h']; try refine okTr_and rfl ?_)
    ((refine FinK.finB r10 [] ?_ ?_); (· first | with_reducible rfl | (simp [e]; done) | rfl); (· simp [resAL, resA1, loadA, oneOr, e]))
theorem entry_Same (a b : En) (hm : Smalls a.lk) (ha : Bys a.data) (hb : Bys b.data) : Ct Try.prog 10 [enA a, enA b] [] (fun _ => bA (sameE a b)) [] (fun _ => []) := (entry_Same0 a b hm ha hb).toCt cl cl
set_option maxRecDepth 100000 in
theorem EqualFuncEn0 (f : FuncId) (eq : En → En → Bool) (he : ∀ x y, eq x y = true ↔ x = y) (a b : List En) (hf : ∀ x ∈ a, ∀ y ∈ b, Ct Try.prog f [enA x, enA y] [] (fun _ => bA (eq x y)) [] (fun _ => [])) (eqL : Bool) (hL : eqL = true ↔ a = b) (hn : a.length ≤ 1000000) : Does Try.prog 31 [slE a, slE b, .fn f [] []] [] (bA eqL) [] := by
  have hno : ¬ a = b → eqL = false := fun h => by
    cases hq : eqL with
    | false => rfl
    | true => exact absurd (hL.1 hq) h
  refine Does.runA Try.func31 b31 n31 Try.ntmps31 ?_; simp only [c31, go_sem, Nat.reduceAdd, Nat.reduceMul, Int.reduceToNat, Nat.reduceLeDiff, Int.reduceLE, Int.reduceLT, ↓reduceIte, Int.reduceBEq, Int.reduceBNe, Int.reduceAdd, Int.reduceSub, Int.reduceMul, ens_length]; try refine okTr_and rfl ?_
  by_cases hlen : (a.length : Int) = b.length
  · have q0 : ((a.length : Int) != (b.length : Int)) = false := by simpa using hlen
    (simp only [go_sem, Nat.reduceAdd, Nat.reduceMul, Int.reduceToNat, Nat.reduceLeDiff, Int.reduceLE, Int.reduceLT, ↓reduceIte, Int.reduceBEq, Int.reduceBNe, Int.reduceAdd, Int.reduceSub, Int.reduceMul, q0, ens_length]; try refine okTr_and rfl ?_)
    refine loop_of (α := Nat) (fun k => [.any, slE b, .fn f [] [], .any, .any, .any, .any, .any, .any, .any, .any, .any, .any, .any, .any, slE a, iA a.length, iA k, .any, .any, .any, .any, .any, .any, .any, .any, .any, .any, .any, .any, .any, .any]) (fun _ => []) (fun k => k ≤ a.length ∧ ∀ i, i < k → a.getD i en0 = b.getD i en0) (fun k => a.length - k) 0 ⟨by simp, fun i hi => by omega⟩ (Wk.to (by simp) (by simp [leT])) ?_
    rintro k ⟨hk, hall⟩
    (simp only [go_sem, Nat.reduceAdd, Nat.reduceMul, Int.reduceToNat, Nat.reduceLeDiff, Int.reduceLE, Int.reduceLT, ↓reduceIte, Int.reduceBEq, Int.reduceBNe, Int.reduceAdd, Int.reduceSub, Int.reduceMul, ens_length]; try refine okTr_and rfl ?_)
    by_cases hlt : k < a.length
    · have q1 : decide ((k : Int) < (a.length : Int)) = true := decide_eq_true (by omega)
      have g1 := ens_get a k hlt
      have g2 := ens_get b k (by omega)
      have ei := i64_succ k (by omega)
      have m1 : a.getD k en0 ∈ a := by simp [hlt]
      have m2 : b.getD k en0 ∈ b := by
        have : k < b.length := by omega
        simp [this]
      have hx := hf _ m1 _ m2
      obtain ⟨x, ex⟩ : ∃ x, a.getD k en0 = x := ⟨_, rfl⟩
      obtain ⟨y, ey⟩ : ∃ y, b.getD k en0 = y := ⟨_, rfl⟩
      rw [ex] at g1 hx; rw [ey] at g2 hx
      (simp only [go_sem, Nat.reduceAdd, Nat.reduceMul, Int.reduceToNat, Nat.reduceLeDiff, Int.reduceLE, Int.reduceLT, ↓reduceIte, Int.reduceBEq, Int.reduceBNe, Int.reduceAdd, Int.reduceSub, Int.reduceMul, q1, g1, ens_length, Int.toNat_natCast]; try refine okTr_and rfl ?_)
      (repeat ((with_reducible refine And.intro ?_ ?_); (· exact sd)))
      (simp only [go_sem, Nat.reduceAdd, Nat.reduceMul, Int.reduceToNat, Nat.reduceLeDiff, Int.reduceLE, Int.reduceLT, ↓reduceIte, Int.reduceBEq, Int.reduceBNe, Int.reduceAdd, Int.reduceSub, Int.reduceMul, g2, ens_length, Int.toNat_natCast]; try refine okTr_and rfl ?_)
      (repeat ((with_reducible refine And.intro ?_ ?_); (· exact sd)))
      refine CallK.p (hx) ?_
      cases hq : eq x y with
      | true =>
        have hxy := (he x y).1 hq
        (simp only [go_sem, Nat.reduceAdd, Nat.reduceMul, Int.reduceToNat, Nat.reduceLeDiff, Int.reduceLE, Int.reduceLT, ↓reduceIte, Int.reduceBEq, Int.reduceBNe, Int.reduceAdd, Int.reduceSub, Int.reduceMul, hq, ei]; try refine okTr_and rfl ?_)
        exact ⟨k + 1, ⟨hlt, fun i hi => by
          rcases Nat.lt_or_ge i k with h | h
          · exact hall i h
          · obtain rfl : i = k := by omega
            rw [ex, ey, hxy]⟩, by omega, Wk.sel [] (by simp) rfl (by simp) rfl (by simp) (by simp [selT, ixs_z])⟩
      | false =>
        have hne := hno (by rintro rfl; rw [ex] at ey; rw [(he x y).2 ey] at hq; cases hq)
        (simp only [go_sem, Nat.reduceAdd, Nat.reduceMul, Int.reduceToNat, Nat.reduceLeDiff, Int.reduceLE, Int.reduceLT, ↓reduceIte, Int.reduceBEq, Int.reduceBNe, Int.reduceAdd, Int.reduceSub, Int.reduceMul, hq]; try refine okTr_and rfl ?_)
        ((refine FinK.finB r31 [] ?_ ?_); (· first | with_reducible rfl | (simp [hne]; done) | rfl); (· simp [resAL, resA1, loadA, oneOr, hne]))
    · have q1 : decide ((k : Int) < (a.length : Int)) = false := decide_eq_false (by omega)
      have hyes : eqL = true := hL.2 (List.ext_getElem (by omega) fun i h1 h2 => by
        have := hall i (by omega)
        simpa [h1, h2] using this)
      (simp only [go_sem, Nat.reduceAdd, Nat.reduceMul, Int.reduceToNat, Nat.reduceLeDiff, Int.reduceLE, Int.reduceLT, ↓reduceIte, Int.reduceBEq, Int.reduceBNe, Int.reduceAdd, Int.reduceSub, Int.reduceMul, q1]; try refine okTr_and rfl ?_)
      ((refine FinK.finB r31 [] ?_ ?_); (· first | with_reducible rfl | (simp [hyes]; done) | rfl); (· simp [resAL, resA1, loadA, oneOr, hyes]))
  · have q0 : ((a.length : Int) != (b.length : Int)) = true := by simpa using hlen
    have hne := hno (by rintro rfl; exact hlen rfl)
    (simp only [go_sem, Nat.reduceAdd, Nat.reduceMul, Int.reduceToNat, Nat.reduceLeDiff, Int.reduceLE, Int.reduceLT, ↓reduceIte, Int.reduceBEq, Int.reduceBNe, Int.reduceAdd, Int.reduceSub, Int.reduceMul, q0]; try refine okTr_and rfl ?_)
    ((refine FinK.finB r31 [] ?_ ?_); (· first | with_reducible rfl | (simp [hne]; done) | rfl); (· simp [resAL, resA1, loadA, oneOr, hne]))
theorem EqualFuncEn (f : FuncId) (eq : En → En → Bool) (he : ∀ x y, eq x y = true ↔ x = y) (a b : List En) (hf : ∀ x ∈ a, ∀ y ∈ b, Ct Try.prog f [enA x, enA y] [] (fun _ => bA (eq x y)) [] (fun _ => [])) (eqL : Bool) (hL : eqL = true ↔ a = b) (hn : a.length ≤ 1000000) : Ct Try.prog 31 [slE a, slE b, .fn f [] []] [] (fun _ => bA eqL) [] (fun _ => []) := (EqualFuncEn0 f eq he a b hf eqL hL hn).toCt cl cl

theorem entry_All0 (a b : List En) (hl : a.length ≤ 1000000) (hm : ∀ e ∈ a, Smalls e.lk) (ha : Ens a) (hb : Ens b) : Does Try.prog 11 [slE a, slE b] [] (bA (allE a b)) [] := by
  refine Does.runA Try.func11 b11 n11 Try.ntmps11 ?_; simp only [c11, go_sem, Nat.reduceAdd, Nat.reduceMul, Int.reduceToNat, Nat.reduceLeDiff, Int.reduceLE, Int.reduceLT, ↓reduceIte, Int.reduceBEq, Int.reduceBNe, Int.reduceAdd, Int.reduceSub, Int.reduceMul]; try refine okTr_and rfl ?_
  refine CallK.p (EqualFuncEn 10 sameE sameE_iff a b (fun x hx y hy => entry_Same x y (hm x hx) (ha x hx).data (hb y hy).data) (allE a b) (allE_iff a b) hl) ?_; (simp only [go_sem, Nat.reduceAdd, Nat.reduceMul, Int.reduceToNat, Nat.reduceLeDiff, Int.reduceLE, Int.reduceLT, ↓reduceIte, Int.reduceBEq, Int.reduceBNe, Int.reduceAdd, Int.reduceSub, Int.reduceMul]; try refine okTr_and rfl ?_)
  exact FinK.finA r11 []
theorem entry_All (a b : List En) (hl : a.length ≤ 1000000) (hm : ∀ e ∈ a, Smalls e.lk) (ha : Ens a) (hb : Ens b) : Ct Try.prog 11 [slE a, slE b] [] (fun _ => bA (allE a b)) [] (fun _ => []) := (entry_All0 a b hl hm ha hb).toCt cl cl

abbrev btA (b : Bt) : AV := .agg [uA b.ep, uA b.base, slE b.en]
def bts (l : List Bt) : List AV := l.map btA
@[simp] theorem ren_bts (ρ : Nat → Nat) (l : List Bt) : (bts l).map (fun x => x.ren ρ) = bts l := by
  simp [bts, Function.comp_def, ixs_z, ren_ints, ren_ens]
structure SmallB (b : Bt) : Prop where
  n : b.en.length ≤ 1000000
  e : ∀ e ∈ b.en, smallE e
  s : (joinE b.en).length ≤ 100000000
theorem SmallB.lk {b : Bt} (h : SmallB b) : ∀ e ∈ b.en, Smalls e.lk := fun e he => (h.e e he).1
end Go.Proofs.Ytnfagphepkeedaa
end
section
namespace Go.Proofs.Ytnfagphepkeedaa
open Go.RowKit

end Go.Proofs.Ytnfagphepkeedaa
end
section
namespace Go.Proofs.Ytnfagphepkeedaa
open Go.RowKit

theorem flat_ints (k : IntKind) (l : List Int) : flat (ints k l) = ints k l := by
  induction l with
  | nil => rfl
  | cons x l ih => rw [ints_cons, flat_cons, ih]; rfl
theorem entry_CopyM0 (e : En) (hm : Smalls e.lk) (hd : e.data.length ≤ 1000000) :
    Does Try.prog 8 [.agg [slL e.lk, .slc 1 (ints .u8 e.data)]] [] (.agg [.ms 0 e.lk.length, .ms 1 e.data.length]) [.mrow 2 e.lk.length (lkC e.lk), .mrow 1 e.data.length (ints .u8 e.data)] := by
  have hcr := fun ρ m => lkC_ren ρ m
  have pslc : ∀ (k : Nat) (xs : List AV), (AV.slc k xs).parts = some [.slc k xs] := fun _ _ => rfl
  have cslc : ∀ (k : Nat) (xs : List AV), (AV.slc k xs).cells = [.slc k xs] := fun _ _ => rfl
  refine Does.runA Try.func8 b8 n8 Try.ntmps8 ?_; simp only [c8, go_sem, Nat.reduceAdd, Nat.reduceMul, Int.reduceToNat, Nat.reduceLeDiff, Int.reduceLE, Int.reduceLT, ↓reduceIte, Int.reduceBEq, Int.reduceBNe, Int.reduceAdd, Int.reduceSub, Int.reduceMul, pslc, cslc]; try refine okTr_and rfl ?_
  (repeat ((with_reducible refine And.intro ?_ ?_); (· exact sd)))
  refine CallK.n (link_CopyM e.lk hm) ?_; (simp only [go_sem, Nat.reduceAdd, Nat.reduceMul, Int.reduceToNat, Nat.reduceLeDiff, Int.reduceLE, Int.reduceLT, ↓reduceIte, Int.reduceBEq, Int.reduceBNe, Int.reduceAdd, Int.reduceSub, Int.reduceMul, ints_length, flat_ints]; try refine okTr_and rfl ?_)
  (repeat ((with_reducible refine And.intro ?_ ?_); (· exact sd)))
  ((refine FinK.finB r8 [2, 3] ?_ ?_); (· first | with_reducible rfl | (simp [hcr]; done) | rfl); (· simp [resAL, resA1, loadA, oneOr, hcr]))
theorem entry_CopyM (e : En) (hm : Smalls e.lk) (hd : e.data.length ≤ 1000000) :
    Ct Try.prog 8 [.agg [slL e.lk, .slc 1 (ints .u8 e.data)]] [] (fun n => .agg [.ms n e.lk.length, .ms (n + 1) e.data.length]) [] (fun _ => [.mrow 2 e.lk.length (lkC e.lk), .mrow 1 e.data.length (ints .u8 e.data)]) :=
  Ct.n (entry_CopyM0 e hm hd) (fun ρ => by simp [ixs_z]) (fun n N => by simp [ixs, List.range'_succ]) (fun n N => by simp only [List.map_cons, List.map_nil, oren_mrow, lkC_ren, ren_ints])
theorem entry_CopyF0 (e : En) (hm : Smalls e.lk) (hd : e.data.length ≤ 1000000) : Does Try.prog 8 [enA e] [] (enA e) [] := by
  refine Does.runA Try.func8 b8 n8 Try.ntmps8 ?_; simp only [c8, go_sem, Nat.reduceAdd, Nat.reduceMul, Int.reduceToNat, Nat.reduceLeDiff, Int.reduceLE, Int.reduceLT, ↓reduceIte, Int.reduceBEq, Int.reduceBNe, Int.reduceAdd, Int.reduceSub, Int.reduceMul]; try refine okTr_and rfl ?_
  (repeat ((with_reducible refine And.intro ?_ ?_); (· exact sd)))
  refine CallK.p (link_Copy e.lk hm.1 hm.2) ?_; (simp only [go_sem, Nat.reduceAdd, Nat.reduceMul, Int.reduceToNat, Nat.reduceLeDiff, Int.reduceLE, Int.reduceLT, ↓reduceIte, Int.reduceBEq, Int.reduceBNe, Int.reduceAdd, Int.reduceSub, Int.reduceMul, ints_length]; try refine okTr_and rfl ?_)
  (repeat ((with_reducible refine And.intro ?_ ?_); (· exact sd)))
  (refine FinK.unobj 1 rfl ?_; simp only [List.set_cons_zero, List.set_cons_succ, List.map_cons, List.map_nil, untag1_lit, untag1_sl])
  exact FinK.finA r8 []
theorem entry_CopyF (e : En) (hm : Smalls e.lk) (hd : e.data.length ≤ 1000000) : Ct Try.prog 8 [enA e] [] (fun _ => enA e) [] (fun _ => []) := (entry_CopyF0 e hm hd).toCt cl cl

theorem ints_at (k : IntKind) (l : List Int) (i : Nat) (h : i < l.length) : (ints k l)[i]? = some (.lit (.int k (l.getD i 0))) := by simp [ints, h]
theorem ints_splice (k : IntKind) (l : List Int) (i : Nat) (v : Int) : splice (ints k l) i [.lit (.int k v)] = ints k (l.set i v) := by
  simp [splice_cons, splice_nil, ints, List.map_set]
theorem lkC_at (l : List Lk) (k : Nat) (h : k < l.length) : (lkC l)[k * 2]? = some (uA (l.getD k lk0).st) := by
  have := lkC_part l k h
  have e : ((lkC l).drop (k * 2)).take 2 = [uA (l.getD k lk0).st, slU (l.getD k lk0).bk] := this
  have e2 := congrArg (fun m : List AV => m[0]?) e
  simpa [List.getElem?_take, List.getElem?_drop] using e2
theorem lkC_st (l : List Lk) (k : Nat) (v : Int) (h : k < l.length) : splice (lkC l) (k * 2) [uA v] = lkC (l.set k ⟨v, (l.getD k lk0).bk⟩) := by
  have h1 := lkC_set l ⟨v, (l.getD k lk0).bk⟩ k h
  rw [← h1]
  apply List.ext_getElem?
  intro j
  have hl := lkC_len l
  rw [splice_get _ _ _ (by simp; omega), splice_get _ _ _ (by simp; omega)]
  by_cases h0 : j = k * 2
  · subst h0; simp
  · by_cases h2 : j = k * 2 + 1
    · subst h2
      rw [if_neg (by simp), if_pos (by simp)]
      have e := congrArg (fun m : List AV => m[1]?) (lkC_part l k h)
      simpa [List.getElem?_take, List.getElem?_drop] using e
    · rw [if_neg (by simp; omega), if_neg (by simp; omega)]
theorem all_copy (a b : En) : allE [a, b] [a, a] = sameE a b := by
  rw [Bool.eq_iff_iff, allE_iff, sameE_iff]
  simp [eq_comm]
set_option maxHeartbeats 1000000 in
set_option maxRecDepth 100000 in
theorem law_EntryCopies (a b : En) (ha : a.ok) (hb : b.ok) : Does Try.prog 3 [enA a, enA b] [] (bA true) [] := by
  have hcr := fun ρ m => lkC_ren ρ m
  refine Does.runA Try.func3 b3 n3 Try.ntmps3 ?_; simp only [c3, go_sem, Nat.reduceAdd, Nat.reduceMul, Int.reduceToNat, Nat.reduceLeDiff, Int.reduceLE, Int.reduceLT, ↓reduceIte, Int.reduceBEq, Int.reduceBNe, Int.reduceAdd, Int.reduceSub, Int.reduceMul]; try refine okTr_and rfl ?_
  (repeat ((with_reducible refine And.intro ?_ ?_); (· exact sd)))
  refine CallK.p (law24_Long a) ?_
  cases hla : longE a with
  | true =>
    (simp only [go_sem, Nat.reduceAdd, Nat.reduceMul, Int.reduceToNat, Nat.reduceLeDiff, Int.reduceLE, Int.reduceLT, ↓reduceIte, Int.reduceBEq, Int.reduceBNe, Int.reduceAdd, Int.reduceSub, Int.reduceMul]; try refine okTr_and rfl ?_)
    refine CallK.p (live24) ?_; (simp only [go_sem, Nat.reduceAdd, Nat.reduceMul, Int.reduceToNat, Nat.reduceLeDiff, Int.reduceLE, Int.reduceLT, ↓reduceIte, Int.reduceBEq, Int.reduceBNe, Int.reduceAdd, Int.reduceSub, Int.reduceMul]; try refine okTr_and rfl ?_)
    exact FinK.finA r3 []
  | false =>
    (simp only [go_sem, Nat.reduceAdd, Nat.reduceMul, Int.reduceToNat, Nat.reduceLeDiff, Int.reduceLE, Int.reduceLT, ↓reduceIte, Int.reduceBEq, Int.reduceBNe, Int.reduceAdd, Int.reduceSub, Int.reduceMul]; try refine okTr_and rfl ?_)
    (repeat ((with_reducible refine And.intro ?_ ?_); (· exact sd)))
    refine CallK.p (law24_Long b) ?_
    cases hlb : longE b with
    | true =>
      (simp only [go_sem, Nat.reduceAdd, Nat.reduceMul, Int.reduceToNat, Nat.reduceLeDiff, Int.reduceLE, Int.reduceLT, ↓reduceIte, Int.reduceBEq, Int.reduceBNe, Int.reduceAdd, Int.reduceSub, Int.reduceMul]; try refine okTr_and rfl ?_)
      refine CallK.p (live24) ?_; (simp only [go_sem, Nat.reduceAdd, Nat.reduceMul, Int.reduceToNat, Nat.reduceLeDiff, Int.reduceLE, Int.reduceLT, ↓reduceIte, Int.reduceBEq, Int.reduceBNe, Int.reduceAdd, Int.reduceSub, Int.reduceMul]; try refine okTr_and rfl ?_)
      exact FinK.finA r3 []
    | false =>
      obtain ⟨sa, da⟩ := longE_no hla
      obtain ⟨sb, db⟩ := longE_no hlb
      (simp only [go_sem, Nat.reduceAdd, Nat.reduceMul, Int.reduceToNat, Nat.reduceLeDiff, Int.reduceLE, Int.reduceLT, ↓reduceIte, Int.reduceBEq, Int.reduceBNe, Int.reduceAdd, Int.reduceSub, Int.reduceMul]; try refine okTr_and rfl ?_)
      (repeat ((with_reducible refine And.intro ?_ ?_); (· exact sd)))
      refine CallK.n ((entry_CopyM a sa.1 (by omega)).weak (WaL.cons (Wa.agg (WaL.cons (Wa.refl _) (WaL.cons Wa.slc WaL.nil))) WaL.nil)) ?_
      (simp only [go_sem, Nat.reduceAdd, Nat.reduceMul, Int.reduceToNat, Nat.reduceLeDiff, Int.reduceLE, Int.reduceLT, ↓reduceIte, Int.reduceBEq, Int.reduceBNe, Int.reduceAdd, Int.reduceSub, Int.reduceMul]; try refine okTr_and rfl ?_)
      (repeat ((with_reducible refine And.intro ?_ ?_); (· exact sd)))
      refine CallK.p (entry_CopyF a sa.1 (by omega)) ?_; (simp only [go_sem, Nat.reduceAdd, Nat.reduceMul, Int.reduceToNat, Nat.reduceLeDiff, Int.reduceLE, Int.reduceLT, ↓reduceIte, Int.reduceBEq, Int.reduceBNe, Int.reduceAdd, Int.reduceSub, Int.reduceMul]; try refine okTr_and rfl ?_)
      generalize hm0 : a.data.length = m at *
      generalize hn0 : a.lk.length = n at *
      refine loop_of (α := Nat × List Int) (fun s => [enA a, enA b, .ref 0 0, .ref 1 0, bA false, .ref 4 0, .ref 5 0, iA s.1, .any, .any, .any, .any, .any, .any, .any, .any, .any, .any, .any, .any, .any, .any, .any, .any, .any, .any, .any, .any, .any, .any, .any, .any, .any, .any, .any, .any, .any, .any, .any, .any, .any, .any, .any, .any, .any, .any, .any, .any, .any, .any, .any, .any, .any, .any, .any, .any, .any, .any, .any, .any, .any, .any, .any, .any, .any, .any, .any, .any, .any, .any, .any, .any, .any, .any, .any, .any, .any, .any, .any, .any, .any, .any, .any, .any])
        (fun s => [.cells [slL a.lk, slA .u8 a.data], .cells [slL b.lk, slA .u8 b.data], .mrow 2 n (lkC a.lk), .mrow 1 m (ints .u8 s.2), .cells [.ms 2 n, .ms 3 m], .cells [slL a.lk, slA .u8 a.data]])
        (fun s => s.1 ≤ m ∧ s.2.length = m) (fun s => m - s.1) (0, a.data) ⟨by simp, hm0⟩ (Wk.to (by simp) (by simp [leT])) ?_
      rintro ⟨k, D⟩ ⟨hk, hD⟩
      simp only at hk hD ⊢
      (simp only [go_sem, Nat.reduceAdd, Nat.reduceMul, Int.reduceToNat, Nat.reduceLeDiff, Int.reduceLE, Int.reduceLT, ↓reduceIte, Int.reduceBEq, Int.reduceBNe, Int.reduceAdd, Int.reduceSub, Int.reduceMul]; try refine okTr_and rfl ?_)
      by_cases hlt : k < m
      · have q1 : decide ((k : Int) < (m : Int)) = true := decide_eq_true (by omega)
        have g := ints_at .u8 D k (by omega)
        have ek := i64_succ k (by omega)
        have hs := ints_splice .u8 D k (IntKind.u8.wrap (D.getD k 0 + 1))
        (simp only [go_sem, Nat.reduceAdd, Nat.reduceMul, Int.reduceToNat, Nat.reduceLeDiff, Int.reduceLE, Int.reduceLT, ↓reduceIte, Int.reduceBEq, Int.reduceBNe, Int.reduceAdd, Int.reduceSub, Int.reduceMul, q1, Int.toNat_natCast, Nat.mul_one, g, hs, ints_length, ek]; try refine okTr_and rfl ?_)
        (repeat ((with_reducible refine And.intro ?_ ?_); (· exact sd)))
        exact ⟨(k + 1, D.set k (IntKind.u8.wrap (D.getD k 0 + 1))), ⟨by simp only; omega, by simpa using hD⟩, by simp only; omega, Wk.to (by simp) (by simp [leT])⟩
      · have q1 : decide ((k : Int) < (m : Int)) = false := decide_eq_false (by omega)
        (simp only [go_sem, Nat.reduceAdd, Nat.reduceMul, Int.reduceToNat, Nat.reduceLeDiff, Int.reduceLE, Int.reduceLT, ↓reduceIte, Int.reduceBEq, Int.reduceBNe, Int.reduceAdd, Int.reduceSub, Int.reduceMul, q1]; try refine okTr_and rfl ?_)
        have hmL := sa.1.1
        rw [hn0] at hmL
        refine loop_of (α := Nat × List Lk) (fun s => [enA a, enA b, .ref 0 0, .ref 1 0, bA false, .ref 4 0, .ref 5 0, .any, iA s.1, .any, .any, .any, .any, .any, .any, .any, .any, .any, .any, .any, .any, .any, .any, .any, .any, .any, .any, .any, .any, .any, .any, .any, .any, .any, .any, .any, .any, .any, .any, .any, .any, .any, .any, .any, .any, .any, .any, .any, .any, .any, .any, .any, .any, .any, .any, .any, .any, .any, .any, .any, .any, .any, .any, .any, .any, .any, .any, .any, .any, .any, .any, .any, .any, .any, .any, .any, .any, .any, .any, .any, .any, .any, .any, .any])
          (fun s => [.cells [slL a.lk, slA .u8 a.data], .cells [slL b.lk, slA .u8 b.data], .mrow 2 n (lkC s.2), .mrow 1 m (ints .u8 D), .cells [.ms 2 n, .ms 3 m], .cells [slL a.lk, slA .u8 a.data]])
          (fun s => s.1 ≤ n ∧ s.2.length = n) (fun s => n - s.1) (0, a.lk) ⟨by simp, hn0⟩ (Wk.to (by simp) (by simp [leT])) ?_
        rintro ⟨j, M⟩ ⟨hj, hM⟩
        simp only at hj hM ⊢
        (simp only [go_sem, Nat.reduceAdd, Nat.reduceMul, Int.reduceToNat, Nat.reduceLeDiff, Int.reduceLE, Int.reduceLT, ↓reduceIte, Int.reduceBEq, Int.reduceBNe, Int.reduceAdd, Int.reduceSub, Int.reduceMul]; try refine okTr_and rfl ?_)
        by_cases hlt2 : j < n
        · have q2 : decide ((j : Int) < (n : Int)) = true := decide_eq_true (by omega)
          have g := lkC_at M j (by omega)
          have ej := i64_succ j (by omega)
          have hs := lkC_st M j (IntKind.u64.wrap ((M.getD j lk0).st + 1)) (by omega)
          have hcl := lkC_len M
          (simp only [go_sem, Nat.reduceAdd, Nat.reduceMul, Int.reduceToNat, Nat.reduceLeDiff, Int.reduceLE, Int.reduceLT, ↓reduceIte, Int.reduceBEq, Int.reduceBNe, Int.reduceAdd, Int.reduceSub, Int.reduceMul, q2, Int.toNat_natCast, g, hs, hcl, ej]; try refine okTr_and rfl ?_)
          (repeat ((with_reducible refine And.intro ?_ ?_); (· exact sd)))
          exact ⟨(j + 1, M.set j ⟨IntKind.u64.wrap ((M.getD j lk0).st + 1), (M.getD j lk0).bk⟩), ⟨by simp only; omega, by simpa using hM⟩, by simp only; omega, Wk.to (by simp) (by simp [leT])⟩
        · have q2 : decide ((j : Int) < (n : Int)) = false := decide_eq_false (by omega)
          have hsa := sameE_self a
          have hac := all_copy a b
          have eb : ∀ c : Bool, (c == c) = true := fun c => by simp
          have hE1 : Ens [a, b] := fun e he => by simp at he; rcases he with rfl | rfl; exact ha; exact hb
          have hE2 : Ens [a, a] := fun e he => by simp at he; subst he; exact ha
          (simp only [go_sem, Nat.reduceAdd, Nat.reduceMul, Int.reduceToNat, Nat.reduceLeDiff, Int.reduceLE, Int.reduceLT, ↓reduceIte, Int.reduceBEq, Int.reduceBNe, Int.reduceAdd, Int.reduceSub, Int.reduceMul, q2]; try refine okTr_and rfl ?_)
          (repeat ((with_reducible refine And.intro ?_ ?_); (· exact sd)))
          refine CallK.p (ref24_Same a a sa.1 ha.data ha.data) ?_; (simp only [go_sem, Nat.reduceAdd, Nat.reduceMul, Int.reduceToNat, Nat.reduceLeDiff, Int.reduceLE, Int.reduceLT, ↓reduceIte, Int.reduceBEq, Int.reduceBNe, Int.reduceAdd, Int.reduceSub, Int.reduceMul, hsa]; try refine okTr_and rfl ?_)
          refine CallK.p (entry_Same a b sa.1 ha.data hb.data) ?_; (simp only [go_sem, Nat.reduceAdd, Nat.reduceMul, Int.reduceToNat, Nat.reduceLeDiff, Int.reduceLE, Int.reduceLT, ↓reduceIte, Int.reduceBEq, Int.reduceBNe, Int.reduceAdd, Int.reduceSub, Int.reduceMul]; try refine okTr_and rfl ?_)
          refine CallK.p (ref24_Same a b sa.1 ha.data hb.data) ?_; (simp only [go_sem, Nat.reduceAdd, Nat.reduceMul, Int.reduceToNat, Nat.reduceLeDiff, Int.reduceLE, Int.reduceLT, ↓reduceIte, Int.reduceBEq, Int.reduceBNe, Int.reduceAdd, Int.reduceSub, Int.reduceMul, eb]; try refine okTr_and rfl ?_)
          (repeat ((with_reducible refine And.intro ?_ ?_); (· exact sd)))
          refine CallK.p (entry_All [a, b] [a, a] (by simp) (fun e he => by simp at he; rcases he with rfl | rfl; exact sa.1; exact sb.1) hE1 hE2) ?_
          (simp only [go_sem, Nat.reduceAdd, Nat.reduceMul, Int.reduceToNat, Nat.reduceLeDiff, Int.reduceLE, Int.reduceLT, ↓reduceIte, Int.reduceBEq, Int.reduceBNe, Int.reduceAdd, Int.reduceSub, Int.reduceMul, hac]; try refine okTr_and rfl ?_)
          refine CallK.p (ref24_Same a b sa.1 ha.data hb.data) ?_; (simp only [go_sem, Nat.reduceAdd, Nat.reduceMul, Int.reduceToNat, Nat.reduceLeDiff, Int.reduceLE, Int.reduceLT, ↓reduceIte, Int.reduceBEq, Int.reduceBNe, Int.reduceAdd, Int.reduceSub, Int.reduceMul, eb]; try refine okTr_and rfl ?_)
          refine CallK.p (live24) ?_; (simp only [go_sem, Nat.reduceAdd, Nat.reduceMul, Int.reduceToNat, Nat.reduceLeDiff, Int.reduceLE, Int.reduceLT, ↓reduceIte, Int.reduceBEq, Int.reduceBNe, Int.reduceAdd, Int.reduceSub, Int.reduceMul]; try refine okTr_and rfl ?_)
          exact FinK.finA r3 []
end Go.Proofs.Ytnfagphepkeedaa
end
section
namespace Go.Proofs.Ytnfagphepkeedaa
open Go.RowKit Go.ChangeShapes Go.WideShapes Go.ChangeAt

/-- The shape of a type: an integer; a slice of elements of n cells (agg: are these structs); a struct's fields, one behind the other. -/
inductive Sh where
  | bool
  | int (k : IntKind)
  | sl (agg : Bool) (n : Nat) (e : Sh)
  | nil
  | pair (a b : Sh)
def elA (agg : Bool) (y : List AV) : AV := if agg then .agg y else y.headD .any
def Sh.Ty : Sh → List AV → Prop
  | .bool, xs => ∃ b, xs = [.lit (.bool b)]
  | .int k, xs => ∃ n, xs = [.lit (.int k n)] ∧ (Lit.int k n).wf = true
  | .sl g n e, xs => ∃ ys : List (List AV), xs = [.sl .none n (ys.map (elA g))] ∧ ∀ y ∈ ys, y.length = n ∧ e.Ty y
  | .nil, xs => xs = []
  | .pair a b, xs => ∃ ys zs, xs = ys ++ zs ∧ a.Ty ys ∧ b.Ty zs
def Sh.flat : Sh → Bool
  | .int _ => true
  | .sl .. => true
  | _ => false
section
variable {P : Program}
def shFs (P : Program) (sub : TypeId → Option Sh) : List Field → Nat → Nat → Option Sh
  | [], off, tot => if off = tot then some .nil else none
  | f :: fs, off, tot => if f.offset = off then (sub f.type).bind fun a => (shFs P sub fs (off + P.cellsOf f.type) tot).map (Sh.pair a) else none
def isSt (P : Program) (t : TypeId) : Bool := match P.underlying t with | some (.struct _) => true | _ => false
def shOf (P : Program) : Nat → TypeId → Option Sh
  | 0, _ => none
  | f + 1, t => match P.underlying t with
    | some .bool => some .bool
    | some (.int k) => some (.int k)
    | some (.slice e) => match shOf P f e with
      | some s => if 1 ≤ P.cellsOf e ∧ (isSt P e = true ∨ s.flat = true ∧ P.cellsOf e = 1) then some (.sl (isSt P e) (P.cellsOf e) s) else none
      | none => none
    | some (.struct fs) => shFs P (shOf P f) fs.toList 0 (P.cellsOf t)
    | _ => none

variable {H : Type} {enc : TypeId × Value → H} {W : World} {sp : Nat → Bool} {held : Bool}
theorem flat_cells {s : Sh} (hf : s.flat = true) {y : List AV} (h : s.Ty y) : ∃ x, y = [x] ∧ x.cells = [x] := by
  cases s with
  | bool => cases hf
  | int k => obtain ⟨n, rfl, _⟩ := h; exact ⟨_, rfl, rfl⟩
  | sl g n e => obtain ⟨ys, rfl, _⟩ := h; exact ⟨_, rfl, rfl⟩
  | nil => cases hf
  | pair a b => cases hf
theorem elA_cells {g : Bool} {s : Sh} (hg : g = true ∨ s.flat = true) {y : List AV} (h : s.Ty y) : (elA g y).cells = y := by
  cases g with
  | true => simp [elA, AV.cells]
  | false =>
    rcases hg with hg | hg
    · cases hg
    · obtain ⟨x, rfl, hx⟩ := flat_cells hg h
      simpa [elA] using hx
theorem shape_struct {n : Nat} {sub : TypeId → Option Sh}
    (ih : ∀ (t : TypeId) (s : Sh) (cs : List Value) (x : DataW H × List MemPlace), sub t = some s → DataW.trod enc P W 0 sp held n t cs = some x → ∃ xs, RepL (G0 W) xs cs ∧ (∀ v ∈ cs, v.oneCell' = true) ∧ s.Ty xs) :
    ∀ (fs : List Field) (off tot : Nat) (s : Sh) (cs : List Value) (zs : List (DataW H × List MemPlace)), shFs P sub fs off tot = some s → cs.length = tot → zs.length = fs.length →
      (∀ (i : Nat) (f : Field), fs[i]? = some f → DataW.trod enc P W 0 sp held n f.type ((cs.drop f.offset).take (P.cellsOf f.type)) = zs[i]?) →
      ∃ xs, RepL (G0 W) xs (cs.drop off) ∧ (∀ v ∈ cs.drop off, v.oneCell' = true) ∧ s.Ty xs := by
  intro fs
  induction fs with
  | nil =>
    intro off tot s cs zs hs hl _ _
    simp only [shFs] at hs
    split at hs
    · rename_i ho
      injection hs with hs; subst hs
      have : cs.drop off = [] := List.drop_eq_nil_of_le (by omega)
      rw [this]
      exact ⟨[], RepL.nil _, by simp, rfl⟩
    · cases hs
  | cons f fs ihf =>
    intro off tot s cs zs hs hl hz h
    simp only [shFs] at hs
    split at hs
    · rename_i ho
      cases ha : sub f.type with
      | none => simp [ha] at hs
      | some a =>
        simp only [ha, Option.bind_some, Option.map_eq_some_iff] at hs
        obtain ⟨b, hb, rfl⟩ := hs
        cases zs with
        | nil => simp at hz
        | cons z zs =>
          have h0 := h 0 f rfl
          simp only [List.getElem?_cons_zero] at h0
          obtain ⟨xs, r1, r2, r3⟩ := ih _ a _ z ha h0
          obtain ⟨ys, q1, q2, q3⟩ := ihf (off + P.cellsOf f.type) tot b cs zs hb hl (by simpa using hz) (fun i g hg => by simpa using h (i + 1) g (by simpa using hg))
          rw [ho] at r1 r2
          have e : cs.drop off = (cs.drop off).take (P.cellsOf f.type) ++ cs.drop (off + P.cellsOf f.type) := by
            rw [← List.drop_drop, List.take_append_drop]
          rw [e]
          exact ⟨xs ++ ys, r1.append q1, fun v hv => by rcases List.mem_append.1 hv with hv | hv; exact r2 v hv; exact q2 v hv, xs, ys, rfl, r3, q3⟩
    · cases hs
theorem cells_get {a : Addr} {n : Nat} {cs : List Value} (h : W.cells? 0 a n = some cs) : cs.length = n ∧ ∀ i, i < n → W.cell? (a.add i) = cs[i]? := by
  obtain ⟨h1, h2, h3⟩ := World.cells?_some h
  exact ⟨h2, h3⟩
/-- What is read of such a shape is so told. -/
theorem shape_rep : ∀ (f : Nat) (t : TypeId) (s : Sh) (n : Nat) (cs : List Value) (x : DataW H × List MemPlace), shOf P f t = some s → DataW.trod enc P W 0 sp held n t cs = some x →
    ∃ xs, RepL (G0 W) xs cs ∧ (∀ v ∈ cs, v.oneCell' = true) ∧ s.Ty xs := by
  intro f
  induction f with
  | zero => intro t s n cs x h; simp [shOf] at h
  | succ f ih =>
    intro t s n cs x hs hd
    simp only [shOf] at hs
    cases hu : P.underlying t with
    | none => simp [hu] at hs
    | some u =>
      rw [hu] at hs
      cases u with
      | bool =>
        injection hs with hs; subst hs
        obtain ⟨m, rfl, _⟩ := DataW.trod_bool hu hd
        exact ⟨[.lit (.bool m)], (RepL.nil _).cons (.lit _), by simp [Value.oneCell'], m, rfl⟩
      | int k =>
        injection hs with hs; subst hs
        obtain ⟨m, rfl, _, hw⟩ := DataW.trod_int hu hd
        exact ⟨[.lit (.int k m)], (RepL.nil _).cons (.lit _), by simp [Value.oneCell'], m, rfl, hw⟩
      | struct fs =>
        obtain ⟨xs, m, _, _, hl, hn, hf⟩ := DataW.trod_struct hu hd
        have := shape_struct (sub := shOf P f) (n := m) (fun t s cs x h1 h2 => ih t s m cs x h1 h2) fs.toList 0 (P.cellsOf t) s cs xs hs hl (by simpa using hn) (fun i f hi => hf i f (by simpa using hi))
        simpa using this
      | slice e =>
        simp only at hs
        cases he : shOf P f e with
        | none => simp [he] at hs
        | some se =>
          rw [he] at hs
          simp only at hs
          split at hs
          · rename_i hc
            injection hs with hs; subst hs
            obtain ⟨hc1, hc2⟩ := hc
            have hg : isSt P e = true ∨ se.flat = true := by rcases hc2 with h | h; exact .inl h; exact .inr h.1
            rcases DataW.trod_slice hu hd with ⟨rfl, _⟩ | ⟨a, len, cap, elems, rest, m, _, rfl, _, _, hle, _, hlen, hel, _, _⟩
            · refine ⟨[.sl .none (P.cellsOf e) []], (RepL.nil _).cons ?_, by simp [Value.oneCell'], [], rfl, by simp⟩
              exact .sl (A := none) (c := 0) (b := 0) (o := 0) (fun _ _ => undef) (by simp) (by simp) (by simp) (by simp) (by simp) (by simp) trivial
            · have each : ∀ i, i < len → ∃ (ce : List Value) (y : List AV), ce.length = P.cellsOf e ∧ (∀ j, j < P.cellsOf e → W.cell? ((a.add (i * P.cellsOf e)).add j) = ce[j]?) ∧ RepL (G0 W) y ce ∧ (∀ v ∈ ce, v.oneCell' = true) ∧ se.Ty y := by
                intro i hi
                have h1 := hel i hi
                have h2 : elems[i]? = some elems[i] := by simp
                rw [h2, Option.bind_eq_some_iff] at h1
                obtain ⟨ce, h3, h4⟩ := h1
                obtain ⟨k1, k2⟩ := cells_get h3
                obtain ⟨y, y1, y2, y3⟩ := ih e se m ce _ he h4
                exact ⟨ce, y, k1, k2, y1, y2, y3⟩
              -- choose them
              have pick : ∃ (cf : Nat → List Value) (yf : Nat → List AV), ∀ i, i < len → (cf i).length = P.cellsOf e ∧ (∀ j, j < P.cellsOf e → W.cell? ((a.add (i * P.cellsOf e)).add j) = (cf i)[j]?) ∧ RepL (G0 W) (yf i) (cf i) ∧ (∀ v ∈ cf i, v.oneCell' = true) ∧ se.Ty (yf i) := by
                refine ⟨fun i => if h : i < len then (each i h).choose else [], fun i => if h : i < len then (each i h).choose_spec.choose else [], fun i hi => ?_⟩
                simp only [dif_pos hi]
                exact (each i hi).choose_spec.choose_spec
              obtain ⟨cf, yf, hall⟩ := pick
              have hyl : ∀ i, i < len → (yf i).length = P.cellsOf e := fun i hi => by
                obtain ⟨p1, _, p3, _⟩ := hall i hi
                rw [p3.1, p1]
              have hlenY : ((List.range len).map yf).length = len := by simp
              have hty : ∀ y ∈ (List.range len).map yf, y.length = P.cellsOf e ∧ se.Ty y := by
                intro y hy
                simp only [List.mem_map, List.mem_range] at hy
                obtain ⟨i, hi, rfl⟩ := hy
                exact ⟨hyl i hi, (hall i hi).2.2.2.2⟩
              refine ⟨[.sl .none (P.cellsOf e) (((List.range len).map yf).map (elA (isSt P e)))], (RepL.nil _).cons ?_, by simp [Value.oneCell'], (List.range len).map yf, rfl, hty⟩
              have hL : (((List.range len).map yf).map (elA (isSt P e))).length = len := by simp
              have hget : ∀ i x, (((List.range len).map yf).map (elA (isSt P e)))[i]? = some x → i < len ∧ x = elA (isSt P e) (yf i) := by
                intro i x hx
                have hi : i < len := by
                  rcases Nat.lt_or_ge i len with h | h
                  · exact h
                  · rw [List.getElem?_eq_none (by simpa using h)] at hx; cases hx
                simp [hi] at hx
                exact ⟨hi, hx.symm⟩
              have hspot : 0 < len → a.spot = none := by
                intro h0
                obtain ⟨p1, p2, _⟩ := hall 0 h0
                have := p2 0 (by omega)
                rw [List.getElem?_eq_getElem (by omega)] at this
                have := spot_none this
                simpa [Addr.add] using this
              have hcell : ∀ i j, i < len → j < P.cellsOf e → W.cell? ⟨a.block, a.off + i * P.cellsOf e + j, none⟩ = (cf i)[j]? := by
                intro i j hi hj
                have hs := hspot (by omega)
                obtain ⟨_, p2, _⟩ := hall i hi
                rw [← p2 j hj]
                obtain ⟨b, o, s⟩ := a
                simp only at hs
                subst hs
                rw [add_none, add_none]
              have main : Rep (G0 W) (.sl .none (P.cellsOf e) (((List.range len).map yf).map (elA (isSt P e)))) (.slice (some a) (((List.range len).map yf).map (elA (isSt P e))).length cap) := by
                refine .sl (b := a.block) (o := a.off) (fun i j => (cf i).getD j undef) (by rw [hL]; exact hle) (fun h => ?_) (fun i x hx => ?_) (fun i j hi hj => ?_) (fun i j hi hj => ?_) (fun i j x y hx hy => ?_) trivial
                · have hs := hspot (by rw [hL] at h; exact h)
                  obtain ⟨b, o, s⟩ := a
                  simp only at hs
                  subst hs; rfl
                · obtain ⟨hi, rfl⟩ := hget i x hx
                  rw [elA_cells hg (hall i hi).2.2.2.2]; exact hyl i hi
                · rw [hL] at hi
                  have hc := hcell i j hi hj
                  have p1 := (hall i hi).1
                  rw [List.getElem?_eq_getElem (by omega)] at hc
                  have e2 : (cf i).getD j undef = (cf i)[j]'(by omega) := by simp [show j < (cf i).length by omega]
                  rw [e2]; exact hc
                · rw [hL] at hi
                  have p1 := (hall i hi).1
                  have e2 : (cf i).getD j undef = (cf i)[j]'(by omega) := by simp [show j < (cf i).length by omega]
                  rw [e2]; exact (hall i hi).2.2.2.1 _ (List.getElem_mem _)
                · obtain ⟨hi, rfl⟩ := hget i x hx
                  rw [elA_cells hg (hall i hi).2.2.2.2] at hy
                  have p3 := (hall i hi).2.2.1
                  have hj : j < (yf i).length := (List.getElem?_eq_some_iff.1 hy).1
                  have hj2 : j < (cf i).length := by rw [← p3.1]; exact hj
                  have e2 : (cf i).getD j undef = (cf i)[j] := by simp [hj2]
                  rw [e2]
                  exact p3.2 j y _ hy (List.getElem?_eq_getElem hj2)
              rw [hL] at main
              exact main
          · cases hs
      | _ => simp at hs
/-- An argument of a shape. -/
theorem open_sh {r : Reach} {b0 : Nat} {t : TypeId} {s : Sh} {v : Value} {d : DataW H} {ps : List MemPlace} (f : Nat) (hs : shOf P f t = some s) (hval : Value.okWide P W r b0 t v) (hd : DataW.Trod enc P W 0 sp held t v d ps) :
    ∃ xs, RepL (G0 W) xs v.cells.toList ∧ (∀ u ∈ v.cells.toList, u.oneCell' = true) ∧ s.Ty xs := by
  obtain ⟨fuel, hf⟩ := hd
  exact shape_rep f t s fuel _ _ hs hf
/-- A struct argument. -/
theorem open_stsh {r : Reach} {b0 : Nat} {t : TypeId} {fs : Array Field} {s : Sh} {v : Value} {d : DataW H} {ps : List MemPlace} (f : Nat) (hs : shOf P f t = some s) (ht : P.underlying t = some (.struct fs)) (hval : Value.okWide P W r b0 t v) (hd : DataW.Trod enc P W 0 sp held t v d ps) :
    ∃ xs, Rep (G0 W) (.agg xs) v ∧ s.Ty xs := by
  obtain ⟨xs, h1, h2, h3⟩ := open_sh f hs hval hd
  obtain ⟨cs, rfl, _⟩ := okWide_struct ht hval
  refine ⟨xs, .agg (by simpa [Value.cells] using h1.1) (fun j u hu => h2 u ?_) (fun j x u hx hu => h1.2 j x u hx (by simpa [Value.cells] using hu)), h3⟩
  simp only [Value.cells]
  exact Array.mem_toList_iff.2 (Array.mem_of_getElem? hu)
theorem ex_list {β : Type} {A : List AV → Prop} {g : β → List AV} {ok : β → Prop} : ∀ {ys : List (List AV)}, (∀ y ∈ ys, A y) → (∀ y, A y → ∃ m, y = g m ∧ ok m) → ∃ l : List β, ys = l.map g ∧ ∀ m ∈ l, ok m := by
  intro ys
  induction ys with
  | nil => intro _ _; exact ⟨[], rfl, by simp⟩
  | cons y ys ih =>
    intro h hg
    obtain ⟨l, rfl, hl⟩ := ih (fun y hy => h y (List.mem_cons_of_mem _ hy)) hg
    obtain ⟨m, rfl, hm⟩ := hg y (h y (List.mem_cons_self ..))
    exact ⟨m :: l, rfl, fun x hx => by rcases List.mem_cons.1 hx with rfl | hx; exact hm; exact hl x hx⟩
end
end Go.Proofs.Ytnfagphepkeedaa
end
section
namespace Go.Proofs.Ytnfagphepkeedaa
open Go.RowKit

end Go.Proofs.Ytnfagphepkeedaa
end
section
namespace Go.Proofs.Ytnfagphepkeedaa
open Go.RowKit

theorem bys_app {a b : List Int} (ha : Bys a) (hb : Bys b) : Bys (a ++ b) := fun x hx => by rcases List.mem_append.1 hx with hx | hx; exact ha x hx; exact hb x hx
theorem frameB_le (p : List Int) : (frameB p).length ≤ p.length + 14 ∧ p.length + 5 ≤ (frameB p).length := by
  rw [frameB_len]; unfold blobB; rw [List.length_append]; have := vb_len (p.length : Int); omega
end Go.Proofs.Ytnfagphepkeedaa
end
section
namespace Go.Proofs.Ytnfagphepkeedaa
end Go.Proofs.Ytnfagphepkeedaa
end
section
namespace Go.Proofs.Ytnfagphepkeedaa
open Go.RowKit

end Go.Proofs.Ytnfagphepkeedaa
end
section
namespace Go.Proofs.Ytnfagphepkeedaa
open Go.RowKit

/-- Rows of bytes. -/
def bss (l : List (List Int)) : List AV := l.map (slA .u8)
@[simp] theorem ren_bss (ρ : Nat → Nat) (l : List (List Int)) : (bss l).map (fun x => x.ren ρ) = bss l := by simp [bss, ixs_z]
def Byss (l : List (List Int)) : Prop := ∀ b ∈ l, Bys b
theorem ls_mem (l : List (List Int)) (k : Nat) (h : k < l.length) : l.getD k [] ∈ l := by simp [h]
/-- What was laid so far: frames at their places. -/
structure Laid (l : List (List Int)) (i : Nat) (all pl : List Int) : Prop where
  len : pl.length = i
  bys : Bys all
  le : all.length ≤ 110 * i
  at_ : ∀ j, j < i → (l.getD j []).length ≤ 60 ∧ 0 ≤ pl.getD j 0 ∧ (pl.getD j 0).toNat + (frameB (l.getD j [])).length ≤ all.length ∧ (all.drop (pl.getD j 0).toNat).take (frameB (l.getD j [])).length = frameB (l.getD j [])
  last : (if i = 0 then 0 else (pl.getD (i - 1) 0).toNat + (frameB (l.getD (i - 1) [])).length) = all.length
theorem Laid.next {l : List (List Int)} {i : Nat} {all pl x : List Int} (hl : Byss l) (h : Laid l i all pl) (hi : i < l.length) (hx : Bys x) (h1 : x.length ≤ 30) (h2 : (l.getD i []).length ≤ 60) :
    Laid l (i + 1) (all ++ x ++ frameB (l.getD i [])) (pl ++ [((all ++ x).length : Int)]) := by
  have hf := frameB_le (l.getD i [])
  have hb := frameB_bys (hl _ (ls_mem l i hi)) (by omega)
  obtain ⟨a1, a2, a3, a4, a5⟩ := h
  have hlast : (pl ++ [((all ++ x).length : Int)]).getD i 0 = ((all ++ x).length : Int) := by
    simp [← a1]
  refine ⟨by simp [a1], bys_app (bys_app a2 hx) hb, by simp only [List.length_append]; omega, fun j hj => ?_, ?_⟩
  · by_cases h3 : j < i
    · obtain ⟨b1, b2, b3, b4⟩ := a4 j h3
      have e : (pl ++ [((all ++ x).length : Int)]).getD j 0 = pl.getD j 0 := by
        simp [List.getElem?_append, a1, h3]
      rw [e]
      refine ⟨b1, b2, by simp only [List.length_append]; omega, ?_⟩
      rw [List.append_assoc, List.drop_append_of_le_length (by omega), List.take_append_of_le_length (by rw [List.length_drop]; omega)]
      exact b4
    · obtain rfl : j = i := by omega
      rw [hlast, Int.toNat_natCast]
      refine ⟨h2, by omega, by simp only [List.length_append]; omega, ?_⟩
      rw [List.drop_left, List.take_length]
  · rw [if_neg (by omega), Nat.add_sub_cancel, hlast, Int.toNat_natCast]
    simp only [List.length_append]
theorem Laid.whole {l : List (List Int)} {i : Nat} {all pl : List Int} (hl : Byss l) (h : Laid l i all pl) (hi : i = l.length) {j : Nat} (hj : j < i) : wholeF (all.drop (pl.getD j 0).toNat) 60 = (frameB (l.getD j [])).length := by
  obtain ⟨b1, b2, b3, b4⟩ := h.at_ j hj
  obtain ⟨p, hp⟩ : ∃ p, l.getD j [] = p := ⟨_, rfl⟩
  rw [hp] at b1 b3 b4 ⊢
  have e : all.drop (pl.getD j 0).toNat = vb (p.length : Int) ++ ((p ++ lowBytes 4 (crcI p)) ++ (all.drop (pl.getD j 0).toNat).drop (frameB p).length) := by
    conv => lhs; rw [← List.take_append_drop (frameB p).length (all.drop (pl.getD j 0).toNat), b4]
    unfold frameB blobB
    simp only [List.append_assoc]
  have hm : mfr 60 = 60 := by decide
  have hi := int_own (s := RS.new (all.drop (pl.getD j 0).toNat)) (x := (p.length : Int)) (m := mfr 60) rfl (by omega) (by rw [hm]; omega) (by omega) ((new_rest _).trans e)
  unfold wholeF
  rw [hi]
  show (if (0 : Int) = 0 then sizeF (p.length : Int) else 0) = _
  rw [if_pos rfl, sizeF_frame]
end Go.Proofs.Ytnfagphepkeedaa
end
section
namespace Go.Proofs.Ytnfagphepkeedaa

theorem ty_ints' {k : IntKind} {ys : List (List AV)} (h : ∀ y ∈ ys, y.length = 1 ∧ (Sh.int k).Ty y) : ∃ l : List Int, ys.map (elA false) = ints k l ∧ ∀ n ∈ l, (Lit.int k n).wf = true := by
  obtain ⟨l, rfl, hl⟩ := ex_list (g := fun n : Int => [AV.lit (.int k n)]) (ok := fun n => (Lit.int k n).wf = true) (fun y hy => (h y hy).2) fun y hy => hy
  exact ⟨l, by simp [ints, elA], hl⟩
end Go.Proofs.Ytnfagphepkeedaa
end
section
namespace Go.Proofs.Ytnfagphepkeedaa

def shLk : Sh := .pair (.int .u64) (.pair (.sl false 1 (.int .u64)) .nil)
theorem ty_lk {y : List AV} (h : shLk.Ty y) : ∃ x : Lk, y = [uA x.st, slA .u64 x.bk] ∧ x.ok := by
  obtain ⟨a, b, rfl, ⟨p, rfl, hp⟩, c, d, rfl, ⟨ys, rfl, hy⟩, rfl⟩ := h
  obtain ⟨l, e1, hl⟩ := ty_ints' hy
  have := u64_wf hp
  exact ⟨⟨p, l⟩, by rw [e1]; rfl, ⟨by simp only; omega, by simp only; omega, fun x hx => by have := u64_wf (hl x hx); omega⟩⟩
theorem lks_of {ys : List (List AV)} (h : ∀ y ∈ ys, y.length = 2 ∧ shLk.Ty y) : ∃ l : List Lk, ys.map (elA true) = lks l ∧ Lks l := by
  obtain ⟨l, rfl, hl⟩ := ex_list (g := fun x : Lk => [uA x.st, slA .u64 x.bk]) (ok := Lk.ok) (fun y hy => (h y hy).2) fun y hy => ty_lk hy
  exact ⟨l, by simp [lks, lkA, elA], hl⟩
def shEn : Sh := .pair (.sl true 2 shLk) (.pair (.sl false 1 (.int .u8)) .nil)
theorem ty_en {y : List AV} (h : shEn.Ty y) : ∃ e : En, y = [slL e.lk, slA .u8 e.data] ∧ e.ok := by
  obtain ⟨a, b, rfl, ⟨zs, rfl, hz⟩, c, d, rfl, ⟨ys, rfl, hy⟩, rfl⟩ := h
  obtain ⟨l, e1, hl⟩ := ty_ints' hy
  obtain ⟨k, e2, hk⟩ := lks_of hz
  exact ⟨⟨k, l⟩, by rw [e1, e2]; rfl, ⟨hk, bys_wf hl⟩⟩
theorem en_of {xs : List AV} (h : shEn.Ty xs) : ∃ e : En, AV.agg xs = enA e ∧ e.ok := by
  obtain ⟨e, rfl, he⟩ := ty_en h
  exact ⟨e, rfl, he⟩
end Go.Proofs.Ytnfagphepkeedaa
end
section
namespace Go.Proofs.Ytnfagphepkeedaa
open Go.RowKit

def leadsAt (P : Program) (g : Nat) : List Nat := (P.funcs[g]?).elim [] P.leadsTo
/-- What a function's own text says: where it leads; is it one of ours, or without a text; does it call what no name tells; which variables it names. -/
def tellOf (P : Program) (g : Func) : List Nat × Bool × Bool × List Nat :=
  (P.leadsTo g, (g.ours || g.body.isNone || g.name == "runtime.NumGoroutine"), (match g.body with | some c => c.unfollowed | none => entryCalls g), g.body.elim [] Code.globalsNamed)

section
variable {P : Program} {T : List (List Nat × Bool × Bool × List Nat)}
def T0 : List Nat × Bool × Bool × List Nat := ([], false, false, [])
theorem tell_at (hT : P.funcs.toList.map (tellOf P) = T) (g : Nat) {fn : Func} (h : P.funcs[g]? = some fn) : T[g]? = some (tellOf P fn) := by
  rw [← hT, List.getElem?_map]
  simp [h]
theorem leads_at (hT : P.funcs.toList.map (tellOf P) = T) (g : Nat) : leadsAt P g = ((T[g]?).getD T0).1 := by
  cases h : P.funcs[g]? with
  | none => rw [← hT, List.getElem?_map]; simp [leadsAt, h, T0]
  | some fn => rw [tell_at hT g h]; simp [leadsAt, h, tellOf]

theorem mem_seen (g : Nat) : ∀ n todo seen, g ∈ seen → g ∈ P.closureVia n todo seen := by
  intro n
  induction n with
  | zero => intro todo seen h; simpa [Program.closureVia] using h
  | succ n ih =>
    intro todo seen h
    cases todo with
    | nil => simpa [Program.closureVia] using h
    | cons f todo =>
      unfold Program.closureVia
      split
      · exact ih _ _ h
      · exact ih _ _ (List.mem_cons_of_mem _ h)
theorem closure_sub (C : Nat → Prop) (hC : ∀ g, C g → ∀ h ∈ leadsAt P g, C h) : ∀ n todo seen, (∀ x ∈ todo, C x) → (∀ x ∈ seen, C x) → ∀ x ∈ P.closureVia n todo seen, C x := by
  intro n
  induction n with
  | zero => intro todo seen _ hs x hx; exact hs x (by simpa [Program.closureVia] using hx)
  | succ n ih =>
    intro todo seen ht hs
    cases todo with
    | nil => intro x hx; exact hs x (by simpa [Program.closureVia] using hx)
    | cons f todo =>
      unfold Program.closureVia
      split
      · exact ih _ _ (fun x hx => ht x (List.mem_cons_of_mem _ hx)) hs
      · refine ih _ _ (fun x hx => ?_) (fun x hx => ?_)
        · rcases List.mem_append.1 hx with h | h
          · exact hC f (ht f (List.mem_cons_self ..)) x h
          · exact ht x (List.mem_cons_of_mem _ h)
        · rcases List.mem_cons.1 hx with h | h
          · rw [h]; exact ht f (List.mem_cons_self ..)
          · exact hs x h
theorem closure_in (C : Nat → Prop) (hC : ∀ g, C g → ∀ h ∈ leadsAt P g, C h) {f : Nat} (hf : C f) : ∀ x ∈ P.closure f, C x :=
  closure_sub C hC _ _ _ (fun x hx => by simp at hx; rw [hx]; exact hf) (fun x hx => by simp at hx)

/-- The walk of the closure on the table, k steps. -/
def closT (T : List (List Nat × Bool × Bool × List Nat)) : Nat → List Nat → List Nat → List Nat × List Nat
  | 0, todo, seen => (todo, seen)
  | _, [], seen => ([], seen)
  | n + 1, f :: todo, seen => if seen.contains f then closT T n todo seen else closT T n (((T[f]?).getD T0).1 ++ todo) (f :: seen)
theorem closT_mem (hT : P.funcs.toList.map (tellOf P) = T) (g : Nat) : ∀ k n todo seen, g ∈ (closT T k todo seen).2 → g ∈ P.closureVia (k + n) todo seen := by
  intro k
  induction k with
  | zero => intro n todo seen h; exact mem_seen g _ _ _ h
  | succ k ih =>
    intro n todo seen h
    cases todo with
    | nil => exact mem_seen g _ _ _ (by simpa [closT] using h)
    | cons f todo =>
      rw [show k + 1 + n = (k + n) + 1 from by omega]
      unfold closT at h
      unfold Program.closureVia
      split at h
      · rename_i hc; rw [if_pos hc]; exact ih _ _ _ h
      · rename_i hc; rw [if_neg hc]
        have e := leads_at hT f
        unfold leadsAt at e
        rw [e]; exact ih _ _ _ h
theorem closure_mem (hT : P.funcs.toList.map (tellOf P) = T) {f g : Nat} (k : Nat) (hk : k ≤ (T.map fun t => t.1.length + 1).sum) (h : (closT T k [f] []).2.contains g = true) : g ∈ P.closure f := by
  have e : (P.funcs.toList.map fun g => (P.leadsTo g).length + 1) = T.map fun t => t.1.length + 1 := by
    rw [← hT, List.map_map]; rfl
  unfold Program.closure
  rw [e]
  obtain ⟨m, hm⟩ := Nat.exists_eq_add_of_le (Nat.le_trans hk (Nat.le_add_left _ 1))
  rw [hm]
  exact closT_mem hT g k m _ _ (by simpa using h)

/-- All that a set of functions says of itself: it leads nowhere else, all its texts are there, none names a variable. -/
def quietSet (T : List (List Nat × Bool × Bool × List Nat)) (C : List Nat) : Bool :=
  C.all fun g => match T[g]? with | some t => t.1.all (C.contains ·) && !t.2.1 && t.2.2.2.isEmpty | none => false
theorem quiet_closed (hT : P.funcs.toList.map (tellOf P) = T) {C : List Nat} (hq : quietSet T C = true) : ∀ g, g ∈ C → ∀ h ∈ leadsAt P g, h ∈ C := by
  intro g hg h hh
  have q := List.all_eq_true.1 hq g hg
  rw [leads_at hT] at hh
  cases e : T[g]? with
  | none => rw [e] at q; simp at q
  | some t =>
    rw [e] at q hh
    simp only [Bool.and_eq_true, List.all_eq_true] at q
    simpa using q.1.1 h hh
theorem quiet_tell (hT : P.funcs.toList.map (tellOf P) = T) {C : List Nat} (hq : quietSet T C = true) {g : Nat} (hg : g ∈ C) : ∃ fn, P.funcs[g]? = some fn ∧ (fn.ours || fn.body.isNone || fn.name == "runtime.NumGoroutine") = false ∧ fn.body.elim [] Code.globalsNamed = [] := by
  have q := List.all_eq_true.1 hq g hg
  cases h : P.funcs[g]? with
  | none =>
    have : T[g]? = none := by rw [← hT, List.getElem?_map]; simp [h]
    rw [this] at q; simp at q
  | some fn =>
    rw [tell_at hT g h] at q
    simp only [tellOf, Bool.and_eq_true, List.isEmpty_iff, Bool.not_eq_true'] at q
    exact ⟨fn, rfl, q.1.2, q.2⟩
theorem inPlace_nil (hT : P.funcs.toList.map (tellOf P) = T) {C : List Nat} (hq : quietSet T C = true) {f : Nat} (hf : f ∈ C) : [] = P.inPlace f := by
  unfold Program.inPlace
  symm
  rw [List.filterMap_eq_nil_iff]
  intro g hg
  obtain ⟨fn, h, h1, h2⟩ := quiet_tell hT hq (closure_in (· ∈ C) (quiet_closed hT hq) hf g hg)
  simp only [h, Option.bind_some]
  rw [h1]; rfl
theorem varsNamed_nil (hT : P.funcs.toList.map (tellOf P) = T) {C : List Nat} (hq : quietSet T C = true) {f : Nat} (hf : f ∈ C) : [] = P.varsNamed f := by
  have hin := closure_in (P := P) (· ∈ C) (quiet_closed hT hq) hf
  have e1 : ((P.closure f).flatMap fun g => ((P.funcs[g]?).bind (·.body)).elim [] Code.globalsNamed) = [] := by
    rw [List.flatMap_eq_nil_iff]
    intro g hg
    obtain ⟨fn, h, h1, h2⟩ := quiet_tell hT hq (hin g hg)
    simpa [h] using h2
  have e2 : ((P.closure f).filterMap fun g => (P.funcs[g]?).bind fun fn => if fn.body.isNone then entryReads.lookup fn.name else none) = [] := by
    rw [List.filterMap_eq_nil_iff]
    intro g hg
    obtain ⟨fn, h, h1, h2⟩ := quiet_tell hT hq (hin g hg)
    have hb : fn.body.isNone = false := by
      simp only [Bool.or_eq_false_iff] at h1
      exact h1.1.2
    simp only [h, Option.bind_some, hb]; rfl
  unfold Program.varsNamed
  rw [e1, e2]
  rfl
theorem unfollowed_true (hT : P.funcs.toList.map (tellOf P) = T) {f g : Nat} (k : Nat) (hk : k ≤ (T.map fun t => t.1.length + 1).sum) (h : (closT T k [f] []).2.contains g = true)
    (hu : ((T[g]?).getD T0).2.2.1 = true) : true = P.unfollowed f := by
  unfold Program.unfollowed
  symm
  rw [List.any_eq_true]
  refine ⟨g, closure_mem hT k hk h, ?_⟩
  cases e : P.funcs[g]? with
  | none =>
    have : T[g]? = none := by rw [← hT, List.getElem?_map]; simp [e]
    rw [this] at hu; simp [T0] at hu
  | some fn =>
    rw [tell_at hT g e] at hu
    simp only [Option.getD_some, tellOf] at hu
    simp only [Option.any_some]
    revert hu
    cases fn.body <;> simp
theorem recurses_true_of_unfollowed {f : Nat} (h : true = P.unfollowed f) : true = P.recurses f := by
  unfold Program.recurses; rw [← h]; rfl
end

theorem strip_cut (rest : List (List Char)) : stripLifts liftWords ("cut".toList :: rest) = ([], "cut".toList :: rest) := by kernel_rfl
theorem cut_not : ("cut".toList == "gc".toList) = false ∧ ("cut".toList == "spec".toList) = false ∧ ("cut".toList == "carried".toList) = false ∧ ("cut".toList == "cut".toList) = true := ⟨by kernel_rfl, by kernel_rfl, by kernel_rfl, by kernel_rfl⟩
section
variable {P : Program} {rest : List (List Char)} (h : behindMainWord (wordsSigns P.initOrder.toList) = "cut".toList :: rest)
include h
theorem headLifts_of : P.headLifts = [] := by
  unfold Program.headLifts
  rw [h, strip_cut]
  simp
theorem mayEnter_of (hl : P.laysLater = false) (hb : P.bearsReflect = false) (hd : P.doorFits [] = true) : P.mayEnter = true := by
  obtain ⟨c1, c2, c3, c4⟩ := cut_not
  unfold Program.mayEnter
  rw [h]
  simp only [strip_cut, hl, hb, hd, c1, c2, c3, Bool.false_and, Bool.or_false, List.head?_cons, Bool.not_false, Bool.or_true, Bool.and_true, List.contains_nil, beq_self_eq_true]
theorem liftsFinal_of : false = P.liftsFinal := by
  obtain ⟨c1, c2, c3, c4⟩ := cut_not
  unfold Program.liftsFinal
  rw [headLifts_of h, h]
  simp only [List.head?_cons, List.contains_nil, Bool.or_false]
  have : ((some "cut".toList : Option (List Char)) == some "carried".toList) = false := c3
  rw [this]; rfl
theorem make_of : P.make = some .cut := by
  obtain ⟨c1, c2, c3, c4⟩ := cut_not
  unfold Program.make
  rw [h]
  simp only [c1, c2, c4, Bool.or_self, Bool.true_or, if_true]
  rfl
end

/-- A row's closed facts, without the four cells that walk all that the function reaches. -/
def lightFacts (P : Program) (fn : Func) (s : ChangeSpec) (c : OpenClaim) : Bool :=
  (c.wf (OpenSpec.ofChange s) && mapsRowed P && fn.params.all (P.readableRec ·) && namedTie P c.named s.vars &&
  (c.stops == []) && (P.stops == []) && (c.knobs == []) && (P.stopKnobs == [])) &&
  ((c.maps == (fn.params.toList ++ s.plain.varTypes P).any (P.mapsRec ·)) && (c.ifaces == (fn.params.toList ++ s.plain.varTypes P).any (P.ifacesRec ·)) && (c.mapsOut == P.mapsAmong fn.resultTypes.toList) &&
  (c.loops == (fn.params.toList ++ s.plain.varTypes P).any (P.loopsFrom ·)) && (c.wideKeys == (fn.params.toList ++ s.plain.varTypes P ++ fn.resultTypes.toList).any (P.wideKeysFrom ·)) &&
  s.vars.all (P.varReadable ·) && fn.resultTypes.all (fun t => P.readableRec t && decide (t < P.types.size)) && (c.ifacesOut == fn.resultTypes.toList.any (P.ifacesRec ·)) && (c.loopsOut == fn.resultTypes.toList.any (P.loopsFrom ·)) && (c.plainKeys == P.plainKeys) && c.shortTexts.isNone) &&
  (P.stopsHeard && (c.kinds == (if c.domain.isEmpty then [] else fn.params.toList.map fun t => match P.underlying t with | some (.int k) => some k | _ => none)) && (c.pinned == c.pinnedBy) &&
  (c.veiled == (fn.params.toList ++ s.plain.varTypes P ++ fn.resultTypes.toList).any (P.veiledRec ·)) && c.veiledFits P fn.params.toList (fn.params.toList ++ s.plain.varTypes P ++ fn.resultTypes.toList))
theorem joined_of {P : Program} {f : Nat} {fn : Func} {s : ChangeSpec} {c : OpenClaim} (hl : laidOutB P = true) (h : lightFacts P fn s c = true) (he : P.mayEnter = true) (hf : c.lifted = P.liftsFinal) (hm : P.make = some c.make)
    (h1 : c.inPlace = P.inPlace f) (h2 : c.unfollowed = P.unfollowed f) (h3 : c.recurses = P.recurses f) (h4 : c.named = P.varsNamed f) : joinedFacts P f fn s c = true := by
  simp only [lightFacts, Bool.and_eq_true, beq_iff_eq] at h
  obtain ⟨⟨⟨⟨⟨⟨⟨⟨⟨g0, g1⟩, g2⟩, g3⟩, g4⟩, g5⟩, g6⟩, g7⟩, ⟨⟨⟨⟨⟨⟨⟨⟨⟨⟨m0, m1⟩, m2⟩, m3⟩, m4⟩, m5⟩, m6⟩, m7⟩, m8⟩, m9⟩, m10⟩⟩, ⟨⟨⟨⟨q0, q1⟩, q2⟩, q3⟩, q4⟩⟩ := h
  simp only [joinedFacts, Bool.and_eq_true, beq_iff_eq]
  exact ⟨⟨⟨⟨⟨⟨⟨⟨⟨⟨⟨⟨⟨⟨⟨⟨⟨⟨⟨⟨⟨⟨⟨⟨⟨⟨⟨⟨⟨⟨⟨g0, hl⟩, g1⟩, g2⟩, g3⟩, g4⟩, g5⟩, g6⟩, g7⟩, h1⟩, h2⟩, h3⟩, h4⟩, m0⟩, m1⟩, m2⟩, m3⟩, m4⟩, m5⟩, m6⟩, m7⟩, m8⟩, m9⟩, m10⟩, q0⟩, he⟩, hf⟩, hm⟩, q1⟩, q2⟩, q3⟩, q4⟩
end Go.Proofs.Ytnfagphepkeedaa
end
section
namespace Go.Proofs.Ytnfagphepkeedaa
open Go.RowKit

def TELLS0 : List (List Nat × Bool × Bool × List Nat) := [([], true, false, []),
  ([], true, false, []),
  ([1], false, false, []),
  ([6, 6, 7, 8, 8, 9, 10, 9, 11, 9, 7], false, false, []),
  ([12, 13, 14, 15, 17, 16, 15, 14], false, false, []),
  ([12, 14, 18, 19, 20, 20, 17, 21, 20, 16, 23, 22, 24, 25, 22, 16, 24, 23, 22, 14], false, false, []),
  ([12], false, false, []),
  ([26, 27, 28, 29], false, false, []),
  ([25], false, false, []),
  ([22, 29], false, false, []),
  ([24, 30], false, false, []),
  ([31, 10], false, false, []),
  ([], false, false, []),
  ([32], false, false, []),
  ([26, 33, 28, 29, 17, 34], false, false, []),
  ([35, 36, 37, 39], false, false, []),
  ([25, 40, 41, 39, 43, 39, 42], false, false, []),
  ([], false, false, []),
  ([44, 39, 40], false, false, []),
  ([], false, false, []),
  ([34], false, false, []),
  ([], false, false, []),
  ([20], false, false, []),
  ([19], false, false, []),
  ([45, 46], false, false, []),
  ([40], false, false, []),
  ([], false, false, []),
  ([48, 49, 33, 50], false, false, []),
  ([51], false, false, []),
  ([], false, false, []),
  ([], false, false, []),
  ([], false, true, []),
  ([], false, false, []),
  ([15, 49, 50, 52, 50, 53], false, false, []),
  ([], false, false, []),
  ([], false, true, []),
  ([], false, false, []),
  ([38], false, false, []),
  ([54], false, false, []),
  ([], false, true, [])]
set_option maxRecDepth 100000 in
theorem tells_eq0 : ((Try.prog.funcs.toList.drop 0).take 40).map (tellOf Try.prog) = TELLS0 := by kernel_rfl
def TELLS1 : List (List Nat × Bool × Bool × List Nat) := [([], false, false, []),
  ([], false, false, []),
  ([55, 56], false, false, []),
  ([], false, false, []),
  ([], false, false, []),
  ([], false, true, []),
  ([47], false, false, []),
  ([], false, false, []),
  ([15], false, false, []),
  ([51], false, false, []),
  ([58, 57], false, false, []),
  ([], false, false, []),
  ([], false, false, []),
  ([54, 49, 50, 50], false, false, []),
  ([], false, false, []),
  ([], true, false, []),
  ([59], false, false, []),
  ([51, 60, 49], false, false, []),
  ([], false, false, []),
  ([61, 61, 61], false, false, []),
  ([], false, false, []),
  ([], false, false, []),
  ([], true, false, []),
  ([], true, false, []),
  ([], true, false, []),
  ([], true, false, []),
  ([], true, false, []),
  ([], true, false, []),
  ([], true, false, []),
  ([], true, false, []),
  ([], true, false, []),
  ([], true, false, []),
  ([], true, false, []),
  ([], true, false, []),
  ([], true, false, []),
  ([], true, false, []),
  ([], true, false, []),
  ([], true, false, []),
  ([], true, false, [])]
set_option maxRecDepth 100000 in
theorem tells_eq1 : ((Try.prog.funcs.toList.drop 40).take 39).map (tellOf Try.prog) = TELLS1 := by kernel_rfl
def TELLS : List (List Nat × Bool × Bool × List Nat) := TELLS0 ++ TELLS1
theorem tells_size : Try.prog.funcs.toList.length = 79 := by kernel_rfl
theorem split_at {α : Type} (l : List α) (i n : Nat) : (l.drop i) = (l.drop i).take n ++ l.drop (i + n) := by
  rw [← List.drop_drop]; exact (List.take_append_drop n _).symm
theorem tells_eq : Try.prog.funcs.toList.map (tellOf Try.prog) = TELLS := by
  have h0 : Try.prog.funcs.toList = Try.prog.funcs.toList.drop 0 := rfl
  rw [h0]
  rw [split_at Try.prog.funcs.toList 0 40, List.map_append, tells_eq0]
  rw [split_at Try.prog.funcs.toList 40 39, List.map_append, tells_eq1]
  rw [List.drop_eq_nil_of_le (by rw [tells_size]; omega)]
  simp [TELLS]
def initSigns : List Nat := [104, 97, 114, 110, 101, 115, 115, 32, 57, 50, 51, 48, 97, 100, 97, 98, 49, 100, 99, 98, 52, 97, 98, 98, 50, 52, 54, 54, 49, 100, 55, 99, 98, 98, 57, 97, 49, 51, 100, 57, 98, 99, 53, 97, 98, 101, 57, 102, 49, 55, 55, 102, 100, 57, 57, 55, 49, 50, 48, 57, 56, 50, 51, 99, 99, 50, 55, 100, 99, 53, 55, 53, 32, 99, 117, 116, 32, 97, 116, 32, 116, 104, 111, 108, 101, 112, 105, 110, 47, 116, 104, 111, 108, 101, 112, 105, 110, 108, 97, 119, 50, 52, 46, 69, 110, 116, 114, 121, 67, 111, 112, 105, 101, 115, 32, 116, 104, 111, 108, 101, 112, 105, 110, 47, 116, 104, 111, 108, 101, 112, 105, 110, 108, 97, 119, 50, 51, 46, 76, 105, 110, 107, 76, 97, 116, 101, 114, 32, 116, 104, 111, 108, 101, 112, 105, 110, 47, 116, 104, 111, 108, 101, 112, 105, 110, 108, 97, 119, 50, 51, 46, 76, 105, 110, 107, 67, 104, 97, 110, 103, 101, 115]
set_option maxRecDepth 100000 in
theorem init_is : Try.prog.initOrder = String.ofList (initSigns.map Char.ofNat) := by kernel_rfl
theorem init_list : Try.prog.initOrder.toList = initSigns.map Char.ofNat := by rw [init_is]; exact String.toList_ofList
theorem cut_word : ("cut").toList = [99, 117, 116].map Char.ofNat := by decide +kernel
theorem cut_head : (behindMainWord (wordsSigns (initSigns.map Char.ofNat))).head? = some ([99, 117, 116].map Char.ofNat) := by kernel_rfl
theorem behind_main : ∃ rest, behindMainWord (wordsSigns Try.prog.initOrder.toList) = "cut".toList :: rest := by
  have h := cut_head
  rw [init_list, cut_word]
  cases hb : behindMainWord (wordsSigns (initSigns.map Char.ofNat)) with
  | nil => rw [hb] at h; cases h
  | cons c r => rw [hb] at h; simp only [List.head?_cons, Option.some.injEq] at h; exact ⟨r, by rw [h]⟩
theorem lays_later : Try.prog.laysLater = false := by kernel_rfl
theorem bears_reflect : Try.prog.bearsReflect = false := by kernel_rfl
theorem door_fits : Try.prog.doorFits [] = true := by kernel_rfl
theorem may_enter : Try.prog.mayEnter = true := by
  obtain ⟨rest, h⟩ := behind_main
  exact mayEnter_of h lays_later bears_reflect door_fits
theorem lifts_final : false = Try.prog.liftsFinal := by
  obtain ⟨rest, h⟩ := behind_main
  exact liftsFinal_of h
theorem make_cut : Try.prog.make = some .cut := by
  obtain ⟨rest, h⟩ := behind_main
  exact make_of h
end Go.Proofs.Ytnfagphepkeedaa
end
section
namespace Go.Proofs.Ytnfagphepkeedaa
open Go.RowKit
namespace CellEntryCopies
def C : List Nat := [3, 6, 7, 8, 9, 10, 11, 12, 15, 20, 22, 24, 25, 26, 27, 28, 29, 30, 31, 33, 34, 35, 36, 37, 38, 39, 40, 45, 46, 47, 48, 49, 50, 51, 52, 53, 54, 57, 58, 60]
theorem quiet : quietSet TELLS C = true := by decide +kernel
theorem mem : 3 ∈ C := by decide
theorem unf : true = Try.prog.unfollowed 3 := unfollowed_true (g := 35) tells_eq 10 (by decide +kernel) (by decide +kernel) (by decide +kernel)
theorem rec : true = Try.prog.recurses 3 := recurses_true_of_unfollowed unf
theorem light : lightFacts Try.pinned.checked.prog Try.f3 Rows.entryCopiesSpec Rows.entryCopiesRow = true := by kernel_rfl
theorem lifted : Rows.entryCopiesRow.lifted = Try.pinned.checked.prog.liftsFinal := lifts_final
theorem made : Try.pinned.checked.prog.make = some Rows.entryCopiesRow.make := make_cut
theorem closed : joinedFacts Try.pinned.checked.prog 3 Try.f3 Rows.entryCopiesSpec Rows.entryCopiesRow = true :=
  joined_of Try.laidOut light may_enter lifted made (inPlace_nil tells_eq quiet mem) unf rec (varsNamed_nil tells_eq quiet mem)
theorem named : Try.pinned.checked.prog.funcNamed Rows.entryCopiesRow.func = some 3 := by kernel_rfl
theorem inst : Try.f3.isInstance Try.pinned.checked.prog Rows.entryCopiesRow.origin Rows.entryCopiesRow.targs := of_decide_eq_true (by kernel_rfl)
theorem wrap : Try.f3.isWrapper Try.pinned.checked.prog Rows.entryCopiesRow.wrapper Rows.entryCopiesRow.mainSum := by unfold Func.isWrapper; first | (rw [if_pos (by decide +kernel)]; kernel_rfl) | (rw [if_neg (by decide +kernel)]; exact ⟨rfl, rfl⟩)
end CellEntryCopies
end Go.Proofs.Ytnfagphepkeedaa
end
