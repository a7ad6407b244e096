/-
  Plain laws of chapter 22: falling lists. No program.
  Contracts of chapter 6: bytes with their number, lists, fixed numbers. Contracts of chapter 6: lists; the reference's. Contracts of chapter 6: the reference's; fixed numbers written; live. Contracts of the pen's fixed numbers; live of chapter 6.
  Contracts of chapter 22: differences of falling lists. Contracts of chapter 22: falling lists read; the reference's; live.
  Plain laws of chapter 23: links. No program.
  Contracts of chapter 23: which links are well-formed, how they are written.
  Contracts of chapter 23: links read, by the code and by the reference.
  Words over any program: rows that are given and grow; values told less exactly within.
  Contracts of chapter 23: the reference's links; links extended; live.
  Contracts of chapter 23: links that are copied into a row that may turn; the place of a link among such.
  The seat's own two facts on its program.
  slices.Insert of one link into a row that may turn: the library's text is walked.
  slices.Insert of one link into a row that may turn: its contract.
  Contracts of chapter 23: the link of a stream, links with one more, or another one.
  Contracts of chapter 23: the document's words for the link of a stream, a link extended, links with one more.
  Contracts of chapter 23: the document's word for links with one more.
  Plain laws of the sum of bytes: its steps are linear, and tell a burst. No program.
  Plain laws of chapter 8: frames. No program.
  Plain laws of bits: numbers of 32 and of 8 digits; bytes some of whose digits are turned, and that a sum tells it. No program.
  Plain laws of chapter 8: where frames begin. No program.
  Plain laws of chapter 8: a reader without a fault has no place of one; frames that are cut, or turned. No program.
  Plain laws of chapter 17: epochs and positions read. No program.
  Plain laws of chapter 31: headers. No program.
  Plain laws of chapter 24: entries. No program.
  Plain laws: a reader of bytes that stand behind others reads the same, at other places. No program.
  Plain laws of chapter 33: footers. No program.
  Plain laws of chapter 35: segments of the version 1. No program.
  Plain laws of chapter 33: the footer with which bytes end. No program.
  Plain: where a reader's fault may stand. No program.
  Plain laws of chapter 35: batches as the version 2 writes them. No program.
  From a law told over abstract values to calls in a world; how arguments are told.
  Chapter 23: LinkReads, LinkWrites.
  Contracts of chapter 24: entries' heads, by the code and by the reference; live.
  Contracts of entries, many: law24.Many, Total, Join by the reference, All.
  Contract of entry.Deal.
  Contracts of epoch and of its reference.
  Plain laws of chapter 11: tokens. No program.
  Plain laws of things that are read to the end; tokens and the bytes that they make. No program.
  Contracts of chapter 11: tokens, one by one.
  Contracts of chapters 11 and 12: tokens by the reference; expanding tokens.
  Plain laws of chapter 12: the bytes of written tokens, how many they are. No program.
  Contracts of chapter 11: tokens written.
  Contracts of chapter 11: tokens written by the reference, tokens read.
  Contracts of chapter 11: all tokens of some bytes; are tokens the same; live.
  Contracts of chapter 35: which segments of the version 1 are well-formed, which are the same.
  Contracts of chapter 35: segments of the version 1, the same or not; by the reference; long ones.
  Contracts that turn three or four objects; a value of which nothing is told. Over any program.
  Contracts of chapters 3 and 7: sums of bytes, by the code and by the reference; bytes some of whose digits are turned; a number's bytes.
  Contracts of chapter 8: frames, by the code and by the reference.
  Contracts of header's functions.
  Contracts of header's reading functions.
  Contracts of the reference's headers; live.
  Contracts of footer's checks and of its payload's reading, and of the reference's.
  Contracts of footer's payload's reading, and of the reference's.
  Contracts of chapter 35: how a segment of the version 1 is read, step by step.
  Contracts of chapter 35: a segment of the version 1 read.
  Contracts of chapter 35: a segment of the version 1 read by the reference.
  Contracts of footer's trailer and of the reference's payload; live.
  Contracts of the reference's footers, written.
  Contracts of footers' writing.
  Contracts of chapter 35: a segment of the version 1 written; by the reference.
  Contracts of chapter 35: well-formed by the reference; live.
  Contracts of chapter 35: links, entries, batches, the same or not.
  Chapter 23: LinkChanges.
  Chapter 23: LinkLater.
  What arguments of any shape are, told as abstract values: integers, slices, structs of these, one within the other.
  Contracts of chapter 8: where frames begin, by the code and by the reference; live.
  Chapter 8: FrameWrites, FrameReads, FrameBack, FrameTells.
  An element of a row of numbers.
  Chapter 8: FrameTells, FrameScans, FrameFinds.
  Chapter 8: FrameFinds.
  Arguments that are rows of bytes, or two numbers.
  Arguments that are links, or entries.
  What a function reaches, read off a table of where each function leads: the cells inPlace, unfollowed, recurses, named of a row, without walking the texts again for each row.
  Closed facts on the program of this seat: where each function leads, and what it names.
  The closed facts of the row of LinkLater.
-/
import Derived.Test.YtnfagphepkeedaaB1
import Derived.Test.YtnfagphepkeedaaRows
import Derived.Lib.Walk
import Derived.Lib.SliceRun
import Derived.Lib.JoinLaws
import Derived.Lib.AppendZerosOnto
import Derived.Laws.Externs
import Derived.Laws.IdiomCopy
import Derived.Laws.LoneSync
import Derived.Shelf.Spec.SlicesInsert
import Derived.IntWalk
set_option linter.all false
set_option linter.unusedSimpArgs false
set_option linter.unusedVariables false
set_option linter.unnecessarySimpa false
section
section
namespace Go.Proofs.Ytnfagphepkeedaa

/-- What a thing behind these must be below. -/
def blw (b : Int) (acc : List Int) : Int := acc.getLastD b
theorem blw_snoc (b : Int) (acc : List Int) (x : Int) : blw b (acc ++ [x]) = x := by simp [blw]
theorem blw_get (b : Int) (acc : List Int) (h : 0 < acc.length) : blw b acc = acc.getD (acc.length - 1) 0 := by
  rcases List.eq_nil_or_concat acc with rfl | ⟨l, x, rfl⟩
  · simp at h
  · simp [blw]
theorem blw_take (b : Int) (l : List Int) (i : Nat) (h : i ≤ l.length) : blw b (l.take i) = if i = 0 then b else l.getD (i - 1) 0 := by
  split
  · rename_i h0; subst h0; rfl
  · rw [blw_get _ _ (by simp; omega)]
    have : (l.take i).length = i := by simp; omega
    rw [this]
    simp [show i - 1 < i from by omega]
def fallNx (b : Int) (acc : List Int) (x : Int) : Prop := 0 ≤ x ∧ x < blw b acc
def fallF (b : Int) : Fmt Int :=
  ⟨fun s acc => if s.vint.1.code = 0 ∧ blw b acc ≤ s.vint.2 then (s.vint.1.fail 13 s.at_, 0) else (s.vint.1, blw b acc - 1 - s.vint.2), fun acc x => vb (blw b acc - 1 - x), fallNx b⟩
theorem fall_le {b : Int} {acc : List Int} (h : Wf (fallNx b) [] acc) : blw b acc ≤ b := by
  have gen : ∀ n, ∀ acc : List Int, acc.length = n → Wf (fallNx b) [] acc → blw b acc ≤ b := by
    intro n
    induction n with
    | zero => intro acc h _; rw [List.eq_nil_of_length_eq_zero h]; exact Int.le_refl _
    | succ n ih =>
      intro acc h hw
      rcases List.eq_nil_or_concat acc with rfl | ⟨l, x, rfl⟩
      · simp at h
      · rw [List.concat_eq_append] at h hw ⊢
        obtain ⟨h1, h2⟩ := wf_snoc.1 hw
        have := ih l (by simpa using h) h1
        rw [blw_snoc]
        have h3 : x < blw b ([] ++ l) := h2.2
        simp only [List.nil_append] at h3
        omega
  exact gen _ acc rfl h
theorem fail_not0 {s : RS} (c a : Int) (h : s.code = 0) (hc : c ≠ 0) : ¬ (s.fail c a).code = 0 := by
  unfold RS.fail; rw [if_pos h]; simp [flt, hc]
theorem fallF_ok {b : Int} (hb : b < 18446744073709551616) : (fallF b).Ok := by
  refine ⟨fun s acc h _ => ?_, fun s acc h hw hc => ?_, fun s acc x r h hc hw hx hr => ?_, fun acc x hw hx => ?_⟩
  · obtain ⟨a, c⟩ := h.vint
    simp only [fallF]
    split
    · exact ⟨a.fail _ _, by rw [fail_l]; exact c⟩
    · exact ⟨a, c⟩
  · simp only [fallF] at hc ⊢
    by_cases hf : s.vint.1.code = 0 ∧ blw b acc ≤ s.vint.2
    · rw [if_pos hf] at hc; exact absurd hc (fail_not0 _ _ hf.1 (by decide))
    · rw [if_neg hf] at hc ⊢
      obtain ⟨v1, v2, v3⟩ := vint_bytes h hc
      have ha := vint_adv h hc
      have hv := vint_range (s := s) h.bys
      have hlt : s.vint.2 < blw b acc := by
        rcases Int.lt_or_le s.vint.2 (blw b acc) with h1 | h1
        · exact h1
        · exact absurd ⟨hc, h1⟩ hf
      have e : blw b acc - 1 - (blw b acc - 1 - s.vint.2) = s.vint.2 := by omega
      refine ⟨v3, ⟨by simp only; omega, by simp only; omega⟩, by simp only; omega, ?_⟩
      simp only
      rw [e]; exact v1
  · have hle := fall_le hw
    obtain ⟨x0, x1⟩ := hx
    simp only [fallF] at hr ⊢
    have hv := vint_own hc (by omega) (by omega) hr
    rw [hv]
    simp only
    rw [if_neg (by omega)]
    simp only [Prod.mk.injEq, true_and]
    omega
  · have hle := fall_le hw
    obtain ⟨x0, x1⟩ := hx
    exact vb_by (by omega) (by omega)
/-- Does a list fall below a number? -/
def falls (b : Int) (l : List Int) : Bool := (List.range l.length).all fun i => decide (l.getD i 0 < if i = 0 then b else l.getD (i - 1) 0)
theorem falls_iff {b : Int} {l : List Int} : falls b l = true ↔ ∀ i, i < l.length → l.getD i 0 < if i = 0 then b else l.getD (i - 1) 0 := by
  unfold falls
  simp only [List.all_eq_true, List.mem_range, decide_eq_true_eq]
theorem falls_not {b : Int} {l : List Int} {i : Nat} (hi : i < l.length) (h : (if i = 0 then b else l.getD (i - 1) 0) ≤ l.getD i 0) : falls b l = false := by
  cases hr : falls b l with
  | false => rfl
  | true => have := falls_iff.1 hr i hi; omega
theorem falls_wf {b : Int} {l : List Int} (hl : U64s l) : falls b l = true ↔ Wf (fallNx b) [] l := by
  rw [falls_iff]
  constructor
  · intro h
    refine wf_of fun k hk => ?_
    have h1 := h k hk
    have h2 := hl _ (getD_mem l k hk)
    simp only [List.nil_append]
    unfold fallNx
    rw [blw_take b l k (by omega)]
    have e : l.getD k 0 = l[k] := by simp [hk]
    rw [e] at h1 h2
    exact ⟨h2.1, h1⟩
  · intro h i hi
    have := wf_get i hi h
    simp only [List.nil_append] at this
    unfold fallNx at this
    rw [blw_take b l i (by omega)] at this
    have e : l.getD i 0 = l[i] := by simp [hi]
    rw [e]; exact this.2
def dst (b : Int) (l : List Int) (i : Nat) : Int := (if i = 0 then b else l.getD (i - 1) 0) - 1 - l.getD i 0
def dsts (b : Int) (l : List Int) (k : Nat) : List Int := (List.range k).map (dst b l)
theorem dsts_succ (b : Int) (l : List Int) (k : Nat) : dsts b l (k + 1) = dsts b l k ++ [dst b l k] := by simp [dsts, List.range_succ]
theorem dsts_len (b : Int) (l : List Int) (k : Nat) : (dsts b l k).length = k := by simp [dsts]
theorem dsts_get (b : Int) (l : List Int) (n k : Nat) (h : k < n) : (dsts b l n).getD k 0 = dst b l k := by simp [dsts, h]
theorem dst_range {b : Int} {l : List Int} (hb : b < 18446744073709551616) (hl : U64s l) (hf : falls b l = true) {i : Nat} (hi : i < l.length) : 0 ≤ dst b l i ∧ dst b l i < 18446744073709551616 := by
  have h1 := falls_iff.1 hf i hi
  have h2 := hl _ (getD_mem l i hi)
  unfold dst
  split at h1
  · rename_i h0; rw [if_pos h0]; omega
  · rename_i h0
    rw [if_neg h0]
    have := hl _ (getD_mem l (i - 1) (by omega))
    omega
theorem dsts_u64 {b : Int} {l : List Int} (hb : b < 18446744073709551616) (hl : U64s l) (hf : falls b l = true) {k : Nat} (hk : k ≤ l.length) : U64s (dsts b l k) := by
  intro x hx
  simp only [dsts, List.mem_map, List.mem_range] at hx
  obtain ⟨i, hi, rfl⟩ := hx
  exact dst_range hb hl hf (by omega)
theorem fall_encs {b : Int} {l : List Int} : encs (fallF b).enc [] l = vbs (dsts b l l.length) := by
  have gen : ∀ k, k ≤ l.length → encs (fallF b).enc [] (l.take k) = vbs (dsts b l k) := by
    intro k
    induction k with
    | zero => intro _; simp [encs, dsts, vbs]
    | succ k ih =>
      intro hk
      rw [take_snoc l k (by omega), encs_snoc, ih (by omega), dsts_succ, vbs_snoc]
      congr 1
      simp only [fallF, List.nil_append]
      rw [blw_take b l k (by omega)]
      rfl
  have := gen l.length (Nat.le_refl _)
  rwa [List.take_length] at this
/-- How a falling list is written. -/
def fallB (b : Int) (l : List Int) : List Int := vb l.length ++ vbs (dsts b l l.length)
def RS.fall (s : RS) (b m : Int) : RS × List Int := (fallF b).counted m s
/-- What stands ahead of a place of a list below a number. -/
def bat (b : Int) (l : List Int) (i : Nat) : Int := if i = 0 then b else l.getD (i - 1) 0
theorem bat_succ (b : Int) (l : List Int) (i : Nat) : bat b l (i + 1) = l.getD i 0 := by simp [bat]
theorem dst_bat (b : Int) (l : List Int) (i : Nat) : dst b l i = bat b l i - 1 - l.getD i 0 := rfl
theorem falls_bat {b : Int} {l : List Int} : falls b l = true ↔ ∀ i, i < l.length → l.getD i 0 < bat b l i := falls_iff
/-- A list that is moved on by a number. -/
def mov (l : List Int) (d : Int) : List Int := l.map fun x => x + d
end Go.Proofs.Ytnfagphepkeedaa
end
end
section
section
namespace Go.Proofs.Ytnfagphepkeedaa
open Go.RowKit

theorem len_u64 {β : Type} (b : List β) (h : b.length < 18446744073709551616) : IntKind.u64.wrap (b.length : Int) = (b.length : Int) := IntWalk.u64_in _ (by omega)
theorem i64_succ (k : Nat) (h : k < 140737488355329) : IntKind.i64.wrap ((k : Int) + 1) = ((k + 1 : Nat) : Int) := by rw [IntWalk.i64_in _ (by omega)]; omega

end Go.Proofs.Ytnfagphepkeedaa
end
section
namespace Go.Proofs.Ytnfagphepkeedaa
open Go.RowKit

end Go.Proofs.Ytnfagphepkeedaa
end
section
namespace Go.Proofs.Ytnfagphepkeedaa
open Go.RowKit

end Go.Proofs.Ytnfagphepkeedaa
end
section
namespace Go.Proofs.Ytnfagphepkeedaa
open Go.RowKit

end Go.Proofs.Ytnfagphepkeedaa
end
end
section
section
namespace Go.Proofs.Ytnfagphepkeedaa
open Go.RowKit

def dstR (b : Int) (l : List Int) : List Int := if falls b l = true then dsts b l l.length else []
theorem delta_Steps0 (b : Int) (l : List Int) (b0 : 0 ≤ b) (b1 : b < 18446744073709551616) (hl : U64s l) (hn : l.length * 8 ≤ 140737488355328) : Does Try.prog 54 [uA b, slU l] [] (.tup [slU (dstR b l), bA (falls b l)]) [] := by
  refine Does.runA Try.func54 b54 n54 Try.ntmps54 ?_; simp only [c54, go_sem, Nat.reduceAdd, Nat.reduceMul, Int.reduceToNat, Nat.reduceLeDiff, Int.reduceLE, Int.reduceLT, ↓reduceIte, Int.reduceBEq, Int.reduceBNe, Int.reduceAdd, Int.reduceSub, Int.reduceMul, ints_length]; try refine okTr_and rfl ?_
  refine loop_of (α := Nat) (fun k => [uA (bat b l k), .any, .any, .any, .any, .any, .sl (.row 0) 1 (ints .u64 (dsts b l k)), .any, .any, slU l, iA l.length, iA k, .any, .any, .any, .any, .any, .any, .any, .any, .any, .any, .any, .any, .any, .any, .any, .any]) (fun k => [.row 1 k]) (fun k => k ≤ l.length ∧ ∀ i, i < k → l.getD i 0 < bat b l i) (fun k => l.length - k) 0 ⟨by simp, by intro i hi; omega⟩ ((Wk.row 6 1 rfl (.inl rfl) (Nat.le_refl _)).trans (Wk.to (by simp) (by simp [leT, ints, dsts, bat]))) ?_
  rintro k ⟨hk, hf⟩
  have hbk : bat b l k < 18446744073709551616 := by
    unfold bat
    split
    · exact b1
    · exact (hl _ (getD_mem l (k - 1) (by omega))).2
  (simp only [go_sem, Nat.reduceAdd, Nat.reduceMul, Int.reduceToNat, Nat.reduceLeDiff, Int.reduceLE, Int.reduceLT, ↓reduceIte, Int.reduceBEq, Int.reduceBNe, Int.reduceAdd, Int.reduceSub, Int.reduceMul]; try refine okTr_and rfl ?_)
  refine cdK_split (fun h => ?_) (fun h => ?_)
  · have hlt : k < l.length := by simpa using h
    have g := u64_get l k hlt
    have hx := hl _ (getD_mem l k hlt)
    have ei := i64_succ k (by omega)
    (simp only [go_sem, Nat.reduceAdd, Nat.reduceMul, Int.reduceToNat, Nat.reduceLeDiff, Int.reduceLE, Int.reduceLT, ↓reduceIte, Int.reduceBEq, Int.reduceBNe, Int.reduceAdd, Int.reduceSub, Int.reduceMul, g, ints_length]; try refine okTr_and rfl ?_)
    (repeat ((with_reducible refine And.intro ?_ ?_); (· exact sd)))
    refine cdK_split (fun h => ?_) (fun h => ?_)
    · have h2 : bat b l k ≤ l.getD k 0 := by simpa using h
      have hno : falls b l = false := falls_not hlt h2
      (simp only [go_sem, Nat.reduceAdd, Nat.reduceMul, Int.reduceToNat, Nat.reduceLeDiff, Int.reduceLE, Int.reduceLT, ↓reduceIte, Int.reduceBEq, Int.reduceBNe, Int.reduceAdd, Int.reduceSub, Int.reduceMul]; try refine okTr_and rfl ?_)
      (refine FinK.untag 4 rfl ?_; simp only [untag1_sl, List.set_cons_zero, List.set_cons_succ])
      ((refine FinK.finB r54 [] ?_ ?_); (· first | with_reducible rfl | (simp [hno, dstR]; done) | rfl); (· simp [resAL, resA1, loadA, oneOr, hno, dstR]))
    · have h2 : l.getD k 0 < bat b l k := by simp at h; simpa using h
      have hs := dsts_succ b l k
      have e1 : IntKind.u64.wrap (bat b l k - l.getD k 0) = bat b l k - l.getD k 0 := IntWalk.u64_in _ (by omega)
      have e2 : IntKind.u64.wrap (bat b l k - l.getD k 0 - 1) = dst b l k := by rw [IntWalk.u64_in _ (by omega), dst_bat]; omega
      (simp only [go_sem, Nat.reduceAdd, Nat.reduceMul, Int.reduceToNat, Nat.reduceLeDiff, Int.reduceLE, Int.reduceLT, ↓reduceIte, Int.reduceBEq, Int.reduceBNe, Int.reduceAdd, Int.reduceSub, Int.reduceMul, e1, e2, ei, ints_snoc, ← hs, ints_length, dsts_len]; try refine okTr_and rfl ?_)
      (repeat ((with_reducible refine And.intro ?_ ?_); (· exact sd)))
      refine ⟨k + 1, ⟨hlt, fun i hi => ?_⟩, by omega, Wk.to (by simp) (by simp [leT, bat_succ])⟩
      rcases Nat.lt_or_ge i k with h3 | h3
      · exact hf i h3
      · obtain rfl : i = k := by omega
        exact h2
  · have ek : k = l.length := by simp at h; omega
    have hyes : falls b l = true := falls_bat.2 fun i hi => hf i (by omega)
    (simp only [go_sem, Nat.reduceAdd, Nat.reduceMul, Int.reduceToNat, Nat.reduceLeDiff, Int.reduceLE, Int.reduceLT, ↓reduceIte, Int.reduceBEq, Int.reduceBNe, Int.reduceAdd, Int.reduceSub, Int.reduceMul]; try refine okTr_and rfl ?_)
    (refine FinK.untag 4 rfl ?_; simp only [untag1_sl, List.set_cons_zero, List.set_cons_succ])
    ((refine FinK.finB r54 [] ?_ ?_); (· first | with_reducible rfl | (simp [hyes, dstR, ek]; done) | rfl); (· simp [resAL, resA1, loadA, oneOr, hyes, dstR, ek]))
theorem delta_Steps (b : Int) (l : List Int) (b0 : 0 ≤ b) (b1 : b < 18446744073709551616) (hl : U64s l) (hn : l.length * 8 ≤ 140737488355328) : Ct Try.prog 54 [uA b, slU l] [] (fun _ => .tup [slU (dstR b l), bA (falls b l)]) [] (fun _ => []) := (delta_Steps0 b l b0 b1 hl hn).toCt cl cl
theorem delta_Falls0 (b : Int) (l : List Int) (b0 : 0 ≤ b) (b1 : b < 18446744073709551616) (hl : U64s l) (hn : l.length * 8 ≤ 140737488355328) : Does Try.prog 38 [uA b, slU l] [] (bA (falls b l)) [] := by
  refine Does.runA Try.func38 b38 n38 Try.ntmps38 ?_; simp only [c38, go_sem, Nat.reduceAdd, Nat.reduceMul, Int.reduceToNat, Nat.reduceLeDiff, Int.reduceLE, Int.reduceLT, ↓reduceIte, Int.reduceBEq, Int.reduceBNe, Int.reduceAdd, Int.reduceSub, Int.reduceMul]; try refine okTr_and rfl ?_
  refine CallK.p (delta_Steps b l b0 b1 hl hn) ?_; (simp only [go_sem, Nat.reduceAdd, Nat.reduceMul, Int.reduceToNat, Nat.reduceLeDiff, Int.reduceLE, Int.reduceLT, ↓reduceIte, Int.reduceBEq, Int.reduceBNe, Int.reduceAdd, Int.reduceSub, Int.reduceMul]; try refine okTr_and rfl ?_)
  exact FinK.finA r38 []
theorem delta_Falls (b : Int) (l : List Int) (b0 : 0 ≤ b) (b1 : b < 18446744073709551616) (hl : U64s l) (hn : l.length * 8 ≤ 140737488355328) : Ct Try.prog 38 [uA b, slU l] [] (fun _ => bA (falls b l)) [] (fun _ => []) := (delta_Falls0 b l b0 b1 hl hn).toCt cl cl

def WS.fall (s : WS) (b : Int) (l : List Int) : WS := if falls b l = true then (s.put (vb l.length)).puts (dsts b l l.length) else s.fail 3
theorem delta_Put0 (s : WS) (b : Int) (l : List Int) (hs : s.fine) (b0 : 0 ≤ b) (b1 : b < 18446744073709551616) (hl : U64s l) (hn : l.length * 8 ≤ 140737488355328) : Does Try.prog 53 [.ref 0 0, uA b, slU l] [wob 1 s, wrow s] (.tup []) [wob 1 (s.fall b l), wrow (s.fall b l)] := by
  have e := len_u64 l (by omega)
  refine Does.runA Try.func53 b53 n53 Try.ntmps53 ?_; simp only [c53, go_sem, Nat.reduceAdd, Nat.reduceMul, Int.reduceToNat, Nat.reduceLeDiff, Int.reduceLE, Int.reduceLT, ↓reduceIte, Int.reduceBEq, Int.reduceBNe, Int.reduceAdd, Int.reduceSub, Int.reduceMul]; try refine okTr_and rfl ?_
  refine CallK.p (delta_Steps b l b0 b1 hl hn) ?_
  cases hf : falls b l
  · (simp only [go_sem, Nat.reduceAdd, Nat.reduceMul, Int.reduceToNat, Nat.reduceLeDiff, Int.reduceLE, Int.reduceLT, ↓reduceIte, Int.reduceBEq, Int.reduceBNe, Int.reduceAdd, Int.reduceSub, Int.reduceMul, hf]; try refine okTr_and rfl ?_)
    refine CallK.u2 (Writer_Fail s 3 0 1 (by decide)) rfl rfl ?_; (simp only [go_sem, Nat.reduceAdd, Nat.reduceMul, Int.reduceToNat, Nat.reduceLeDiff, Int.reduceLE, Int.reduceLT, ↓reduceIte, Int.reduceBEq, Int.reduceBNe, Int.reduceAdd, Int.reduceSub, Int.reduceMul]; try refine okTr_and rfl ?_)
    ((refine FinK.finB r53 [0, 1] ?_ ?_); (· first | with_reducible rfl | (simp [WS.fall, hf]; done) | rfl); (· simp [resAL, resA1, loadA, oneOr, WS.fall, hf]))
  · have hd : dstR b l = dsts b l l.length := by unfold dstR; rw [if_pos hf]
    (simp only [go_sem, Nat.reduceAdd, Nat.reduceMul, Int.reduceToNat, Nat.reduceLeDiff, Int.reduceLE, Int.reduceLT, ↓reduceIte, Int.reduceBEq, Int.reduceBNe, Int.reduceAdd, Int.reduceSub, Int.reduceMul, hf, hd, ints_length, e]; try refine okTr_and rfl ?_)
    refine CallK.u2 (varint_Put s l.length 0 1 (by decide) (by omega) (by omega) hs.ok (hs.room _)) rfl rfl ?_; (simp only [go_sem, Nat.reduceAdd, Nat.reduceMul, Int.reduceToNat, Nat.reduceLeDiff, Int.reduceLE, Int.reduceLT, ↓reduceIte, Int.reduceBEq, Int.reduceBNe, Int.reduceAdd, Int.reduceSub, Int.reduceMul, ints_length, dsts_len]; try refine okTr_and rfl ?_)
    refine loop_of (α := Nat) (fun k => [.ref 0 0, .any, .any, .any, .any, .any, .any, .any, .any, .any, .any, .any, .any, .any, .any, .any, .any, .any, .any, .any, .any, .any, .any, .any, .any, slU (dsts b l l.length), iA l.length, iA k, .any, .any, .any, .any, .any, .any, .any]) (fun k => [wob 1 ((s.put (vb l.length)).puts (dsts b l k)), wrow ((s.put (vb l.length)).puts (dsts b l k))]) (fun k => k ≤ l.length) (fun k => l.length - k) 0 (by simp) (Wk.to (by simp [WS.puts, dsts]) (by simp [leT])) ?_
    intro k hk
    (simp only [go_sem, Nat.reduceAdd, Nat.reduceMul, Int.reduceToNat, Nat.reduceLeDiff, Int.reduceLE, Int.reduceLT, ↓reduceIte, Int.reduceBEq, Int.reduceBNe, Int.reduceAdd, Int.reduceSub, Int.reduceMul]; try refine okTr_and rfl ?_)
    refine cdK_split (fun h => ?_) (fun h => ?_)
    · have hlt : k < l.length := by simpa using h
      have g : (ints .u64 (dsts b l l.length)).getD (k : Int).toNat .any = uA (dst b l k) := by rw [u64_get _ k (by rw [dsts_len]; exact hlt), dsts_get b l _ k hlt]
      have hx := dst_range b1 hl hf hlt
      have ei := i64_succ k (by omega)
      have hps := puts_snoc (s.put (vb l.length)) (dsts b l k) (dst b l k)
      rw [← dsts_succ] at hps
      (simp only [go_sem, Nat.reduceAdd, Nat.reduceMul, Int.reduceToNat, Nat.reduceLeDiff, Int.reduceLE, Int.reduceLT, ↓reduceIte, Int.reduceBEq, Int.reduceBNe, Int.reduceAdd, Int.reduceSub, Int.reduceMul, g, ints_length, dsts_len]; try refine okTr_and rfl ?_)
      (repeat ((with_reducible refine And.intro ?_ ?_); (· exact sd)))
      refine CallK.u2 (varint_Put _ (dst b l k) 0 1 (by decide) hx.1 hx.2 ((hs.put _).puts _).ok (((hs.put _).puts _).room _)) rfl rfl ?_; (simp only [go_sem, Nat.reduceAdd, Nat.reduceMul, Int.reduceToNat, Nat.reduceLeDiff, Int.reduceLE, Int.reduceLT, ↓reduceIte, Int.reduceBEq, Int.reduceBNe, Int.reduceAdd, Int.reduceSub, Int.reduceMul, ei, ← hps]; try refine okTr_and rfl ?_)
      exact ⟨k + 1, hlt, by omega, Wk.to (by simp) (by simp [leT])⟩
    · have ek : k = l.length := by simp at h; omega
      (simp only [go_sem, Nat.reduceAdd, Nat.reduceMul, Int.reduceToNat, Nat.reduceLeDiff, Int.reduceLE, Int.reduceLT, ↓reduceIte, Int.reduceBEq, Int.reduceBNe, Int.reduceAdd, Int.reduceSub, Int.reduceMul]; try refine okTr_and rfl ?_)
      ((refine FinK.finB r53 [0, 1] ?_ ?_); (· first | with_reducible rfl | (simp [WS.fall, hf, ek]; done) | rfl); (· simp [resAL, resA1, loadA, oneOr, WS.fall, hf, ek]))
theorem delta_Put (s : WS) (b : Int) (l : List Int) (i j : Nat) (h : i ≠ j) (hs : s.fine) (b0 : 0 ≤ b) (b1 : b < 18446744073709551616) (hl : U64s l) (hn : l.length * 8 ≤ 140737488355328) : Ct Try.prog 53 [.ref i 0, uA b, slU l] [(i, wob j s), (j, wrow s)] (fun _ => .tup []) [(i, wob j (s.fall b l)), (j, wrow (s.fall b l))] (fun _ => []) := Ct.u2 (delta_Put0 s b l hs b0 b1 hl hn) i j h cl cl cl cl cl (wob_dead _ _) (wrow_dead _) clo
end Go.Proofs.Ytnfagphepkeedaa
end
section
namespace Go.Proofs.Ytnfagphepkeedaa
open Go.RowKit

theorem ref22_Falls0 (b : Int) (l : List Int) (hn : l.length ≤ 140737488355328) : Does Try.prog 32 [uA b, slU l] [] (bA (falls b l)) [] := by
  refine Does.runA Try.func32 b32 n32 Try.ntmps32 ?_; simp only [c32, go_sem, Nat.reduceAdd, Nat.reduceMul, Int.reduceToNat, Nat.reduceLeDiff, Int.reduceLE, Int.reduceLT, ↓reduceIte, Int.reduceBEq, Int.reduceBNe, Int.reduceAdd, Int.reduceSub, Int.reduceMul]; try refine okTr_and rfl ?_
  refine loop_of (α := Nat) (fun k => [uA b, slU l, .any, .any, .any, iA k, .any, .any, .any, .any, .any, .any, .any, .any, .any, .any, .any, .any, .any, .any, .any, .any, .any, .any, .any, .any, .any, .any, .any, .any, .any, .any, .any, .any, .any, .any, .any]) (fun _ => []) (fun k => k ≤ l.length ∧ ∀ i, i < k → l.getD i 0 < bat b l i) (fun k => l.length - k) 0 ⟨by simp, by intro i hi; omega⟩ (Wk.to (by simp) (by simp [leT])) ?_
  rintro k ⟨hk, hf⟩
  (simp only [go_sem, Nat.reduceAdd, Nat.reduceMul, Int.reduceToNat, Nat.reduceLeDiff, Int.reduceLE, Int.reduceLT, ↓reduceIte, Int.reduceBEq, Int.reduceBNe, Int.reduceAdd, Int.reduceSub, Int.reduceMul, ints_length]; try refine okTr_and rfl ?_)
  refine cdK_split (fun h => ?_) (fun h => ?_)
  · have hlt : k < l.length := by simpa using h
    have g := u64_get l k hlt
    have ei := i64_succ k (by omega)
    have key : ∀ w, w = decide (bat b l k ≤ l.getD k 0) → (w = true → falls b l = false) ∧ (w = false → ∀ i, i < k + 1 → l.getD i 0 < bat b l i) := by
      rintro w rfl
      refine ⟨fun hw => falls_not hlt (of_decide_eq_true hw), fun hw i hi => ?_⟩
      rcases Nat.lt_or_ge i k with h3 | h3
      · exact hf i h3
      · obtain rfl : i = k := by omega
        simp at hw; simpa using hw
    obtain ⟨w, hw⟩ : ∃ w, decide (bat b l k ≤ l.getD k 0) = w := ⟨_, rfl⟩
    obtain ⟨k1, k2⟩ := key w hw.symm
    rcases Nat.eq_zero_or_pos k with hz | hz
    · have q1 : ((k : Int) == 0) = true := by simp; omega
      have q2 : decide ((0 : Int) < k) = false := by simp; omega
      have hw' : decide (b ≤ l.getD 0 0) = w := by rw [← hw, hz]; rfl
      have g0 : (ints .u64 l).getD 0 .any = uA (l.getD 0 0) := ints_getD .u64 l 0 (by omega)
      cases hww : w
      · (simp only [go_sem, Nat.reduceAdd, Nat.reduceMul, Int.reduceToNat, Nat.reduceLeDiff, Int.reduceLE, Int.reduceLT, ↓reduceIte, Int.reduceBEq, Int.reduceBNe, Int.reduceAdd, Int.reduceSub, Int.reduceMul, q1, q2, g0, hw', hww, ints_length, ei]; try refine okTr_and rfl ?_)
        (repeat ((with_reducible refine And.intro ?_ ?_); (· exact sd)))
        exact ⟨k + 1, ⟨hlt, k2 hww⟩, by omega, Wk.to (by simp) (by simp [leT])⟩
      · (simp only [go_sem, Nat.reduceAdd, Nat.reduceMul, Int.reduceToNat, Nat.reduceLeDiff, Int.reduceLE, Int.reduceLT, ↓reduceIte, Int.reduceBEq, Int.reduceBNe, Int.reduceAdd, Int.reduceSub, Int.reduceMul, q1, q2, g0, hw', hww, ints_length, ei]; try refine okTr_and rfl ?_)
        (repeat ((with_reducible refine And.intro ?_ ?_); (· exact sd)))
        ((refine FinK.finB r32 [] ?_ ?_); (· first | with_reducible rfl | (simp [k1 hww]; done) | rfl); (· simp [resAL, resA1, loadA, oneOr, k1 hww]))
    · have q1 : ((k : Int) == 0) = false := by simp; omega
      have q2 : decide ((0 : Int) < k) = true := by simp; omega
      have ej : IntKind.i64.wrap ((k : Int) - 1) = ((k - 1 : Nat) : Int) := by rw [IntWalk.i64_in _ (by omega)]; omega
      have g2 := u64_get l (k - 1) (by omega)
      have hw' : decide (l.getD (k - 1) 0 ≤ l.getD k 0) = w := by rw [← hw]; unfold bat; rw [if_neg (by omega)]
      cases hww : w
      · (simp only [go_sem, Nat.reduceAdd, Nat.reduceMul, Int.reduceToNat, Nat.reduceLeDiff, Int.reduceLE, Int.reduceLT, ↓reduceIte, Int.reduceBEq, Int.reduceBNe, Int.reduceAdd, Int.reduceSub, Int.reduceMul, q1, q2, ej, g, g2, hw', hww, ints_length, ei]; try refine okTr_and rfl ?_)
        (repeat ((with_reducible refine And.intro ?_ ?_); (· exact sd)))
        exact ⟨k + 1, ⟨hlt, k2 hww⟩, by omega, Wk.to (by simp) (by simp [leT])⟩
      · (simp only [go_sem, Nat.reduceAdd, Nat.reduceMul, Int.reduceToNat, Nat.reduceLeDiff, Int.reduceLE, Int.reduceLT, ↓reduceIte, Int.reduceBEq, Int.reduceBNe, Int.reduceAdd, Int.reduceSub, Int.reduceMul, q1, q2, ej, g, g2, hw', hww, ints_length, ei]; try refine okTr_and rfl ?_)
        (repeat ((with_reducible refine And.intro ?_ ?_); (· exact sd)))
        ((refine FinK.finB r32 [] ?_ ?_); (· first | with_reducible rfl | (simp [k1 hww]; done) | rfl); (· simp [resAL, resA1, loadA, oneOr, k1 hww]))
  · have hyes : falls b l = true := falls_bat.2 fun i hi => hf i (by simp at h; omega)
    (simp only [go_sem, Nat.reduceAdd, Nat.reduceMul, Int.reduceToNat, Nat.reduceLeDiff, Int.reduceLE, Int.reduceLT, ↓reduceIte, Int.reduceBEq, Int.reduceBNe, Int.reduceAdd, Int.reduceSub, Int.reduceMul]; try refine okTr_and rfl ?_)
    ((refine FinK.finB r32 [] ?_ ?_); (· first | with_reducible rfl | (simp [hyes]; done) | rfl); (· simp [resAL, resA1, loadA, oneOr, hyes]))
theorem ref22_Falls (b : Int) (l : List Int) (hn : l.length ≤ 140737488355328) : Ct Try.prog 32 [uA b, slU l] [] (fun _ => bA (falls b l)) [] (fun _ => []) := (ref22_Falls0 b l hn).toCt cl cl
end Go.Proofs.Ytnfagphepkeedaa
end
end
section
namespace Go.Proofs.Ytnfagphepkeedaa

/-- A link: a stream, and the entries of it ahead. -/
structure Lk where
  st : Int
  bk : List Int
  deriving DecidableEq
def lk0 : Lk := ⟨0, []⟩
structure Lk.ok (x : Lk) : Prop where
  s0 : 0 ≤ x.st
  s1 : x.st < 18446744073709551616
  b : U64s x.bk
def Lks (l : List Lk) : Prop := ∀ x ∈ l, x.ok
/-- The stream of the last of some links; -1: there is none. -/
def lst (acc : List Lk) : Int := (acc.getLastD ⟨-1, []⟩).st
theorem lst_snoc (acc : List Lk) (x : Lk) : lst (acc ++ [x]) = x.st := by simp [lst]
theorem lst_get (l : List Lk) (h : 0 < l.length) : lst l = (l.getD (l.length - 1) lk0).st := by
  rcases List.eq_nil_or_concat l with rfl | ⟨l, x, rfl⟩
  · simp at h
  · simp [lst]
theorem lst_take (l : List Lk) (i : Nat) (h : i ≤ l.length) : lst (l.take i) = if i = 0 then -1 else (l.getD (i - 1) lk0).st := by
  split
  · rename_i h0; subst h0; rfl
  · rw [lst_get _ (by simp; omega)]
    have : (l.take i).length = i := by simp; omega
    rw [this]
    simp [show i - 1 < i by omega]
def linkNx (pos : Int) (acc : List Lk) (x : Lk) : Prop := lst acc < x.st ∧ x.st < 18446744073709551616 ∧ U64s x.bk ∧ falls pos x.bk = true ∧ x.bk.length ≤ 4
/-- The reader behind a stream's number. -/
def RS.lkHead (s : RS) (acc : List Lk) : RS := if s.vint.1.code = 0 ∧ 18446744073709551616 ≤ lst acc + 1 + s.vint.2 then s.vint.1.fail 13 s.at_ else s.vint.1
def linkF (pos : Int) : Fmt Lk :=
  ⟨fun s acc => (((s.lkHead acc).fall pos 4).1, ⟨lst acc + 1 + s.vint.2, ((s.lkHead acc).fall pos 4).2⟩), fun acc x => vb (x.st - lst acc - 1) ++ fallB pos x.bk, linkNx pos⟩
theorem lst_ge {pos : Int} {acc : List Lk} (h : Wf (linkNx pos) [] acc) : -1 ≤ lst acc ∧ lst acc < 18446744073709551616 := by
  have gen : ∀ n, ∀ acc : List Lk, acc.length = n → Wf (linkNx pos) [] acc → -1 ≤ lst acc ∧ lst acc < 18446744073709551616 := by
    intro n
    induction n with
    | zero => intro acc h _; rw [List.eq_nil_of_length_eq_zero h]; exact ⟨Int.le_refl _, by decide⟩
    | succ n ih =>
      intro acc h hw
      rcases List.eq_nil_or_concat acc with rfl | ⟨l, x, rfl⟩
      · simp at h
      · rw [List.concat_eq_append] at h hw ⊢
        obtain ⟨h1, h2⟩ := wf_snoc.1 hw
        have := ih l (by simpa using h) h1
        rw [lst_snoc]
        have h3 : lst ([] ++ l) < x.st := h2.1
        simp only [List.nil_append] at h3
        exact ⟨by omega, h2.2.1⟩
  exact gen _ acc rfl h
theorem fall_keep {s : RS} {b : Int} (h : ROk s) (hb : b < 18446744073709551616) (m : Int) : ROk (s.fall b m).1 ∧ (s.fall b m).1.l = s.l := counted_keep (fallF_ok hb) h m
theorem fallB_bys {b : Int} {l : List Int} (hb : b < 18446744073709551616) (hl : U64s l) (hf : falls b l = true) (hn : l.length < 18446744073709551616) : Bys (fallB b l) := by
  unfold fallB
  intro y hy
  rcases List.mem_append.1 hy with hy | hy
  · exact vb_by (by omega) (by omega) y hy
  · exact vbs_bys (dsts_u64 hb hl hf (Nat.le_refl _)) y hy
theorem fall_is {s : RS} {b m : Int} (h : ROk s) (b0 : 0 ≤ b) (hb : b < 18446744073709551616) (hc : (s.fall b m).1.code = 0) : s.code = 0 ∧ U64s (s.fall b m).2 ∧ falls b (s.fall b m).2 = true ∧ ((s.fall b m).2.length : Int) ≤ m ∧ s.at_ < (s.fall b m).1.at_ ∧ s.l.take (s.fall b m).1.at_.toNat = s.l.take s.at_.toNat ++ fallB b (s.fall b m).2 := by
  obtain ⟨c1, c2, c3, c4, c5⟩ := counted_is (fallF_ok hb) h hc
  have hu : U64s (s.fall b m).2 := by
    intro x hx
    obtain ⟨i, hi, rfl⟩ := List.getElem_of_mem hx
    have hn := wf_get i hi c1
    have hw := wf_take i c1
    have hl := fall_le hw
    simp only [List.nil_append] at hn
    have hn1 : 0 ≤ (s.fall b m).2[i] ∧ (s.fall b m).2[i] < blw b ((s.fall b m).2.take i) := hn
    exact ⟨hn1.1, by have : blw b ((s.fall b m).2.take i) ≤ b := hl; omega⟩
  refine ⟨c3, hu, (falls_wf hu).2 c1, c2, c5, ?_⟩
  have e : encs (fallF b).enc [] ((fallF b).counted m s).2 = vbs (dsts b ((fallF b).counted m s).2 ((fallF b).counted m s).2.length) := fall_encs
  rw [e, List.append_assoc] at c4
  exact c4
theorem fall_own {s : RS} {b m : Int} {l r : List Int} (h : ROk s) (hc : s.code = 0) (hb : b < 18446744073709551616) (hl : U64s l) (hf : falls b l = true) (hm : (l.length : Int) ≤ m) (hn : l.length < 18446744073709551616) (hr : s.rest = fallB b l ++ r) : s.fall b m = (s.adv ((fallB b l).length : Int), l) := by
  have hw := (falls_wf hl).1 hf
  unfold fallB at hr ⊢
  rw [List.append_assoc] at hr
  have e : encs (fallF b).enc [] l = vbs (dsts b l l.length) := fall_encs
  have := counted_own (fallF_ok hb) h hc hm hw hn (r := r) (by rw [e]; exact hr)
  unfold RS.fall
  rw [this, e, List.length_append]
  rfl
theorem linkF_ok {pos : Int} (p0 : 0 ≤ pos) (p1 : pos < 18446744073709551616) : (linkF pos).Ok := by
  refine ⟨fun s acc h _ => ?_, fun s acc h hw hc => ?_, fun s acc x r h hc hw hx hr => ?_, fun acc x hw hx => ?_⟩
  · obtain ⟨a, c⟩ := h.vint
    have hk : ROk (s.lkHead acc) ∧ (s.lkHead acc).l = s.l := by
      unfold RS.lkHead
      split
      · exact ⟨a.fail _ _, by rw [fail_l]; exact c⟩
      · exact ⟨a, c⟩
    have hf := fall_keep hk.1 p1 4
    exact ⟨hf.1, hf.2.trans hk.2⟩
  · have hg := lst_ge hw
    have hv := vint_range (s := s) h.bys
    obtain ⟨a, c⟩ := h.vint
    have hkh : (s.lkHead acc).code = 0 ∧ ROk (s.lkHead acc) := by
      have hk : ROk (s.lkHead acc) := by
        unfold RS.lkHead
        split
        · exact a.fail _ _
        · exact a
      exact ⟨(fall_is hk p0 p1 hc).1, hk⟩
    have hno : ¬ (s.vint.1.code = 0 ∧ 18446744073709551616 ≤ lst acc + 1 + s.vint.2) := by
      intro hx
      have := hkh.1
      unfold RS.lkHead at this
      rw [if_pos hx] at this
      exact absurd this (fail_not0 _ _ hx.1 (by decide))
    have hke : s.lkHead acc = s.vint.1 := by unfold RS.lkHead; rw [if_neg hno]
    have hc' : ((s.lkHead acc).fall pos 4).1.code = 0 := hc
    rw [hke] at hkh hc'
    obtain ⟨f1, f2, f3, f4, f5, f6⟩ := fall_is hkh.2 p0 p1 hc'
    obtain ⟨v1, v2, v3⟩ := vint_bytes h hkh.1
    have ha := vint_adv h hkh.1
    have hlt : lst acc + 1 + s.vint.2 < 18446744073709551616 := by
      rcases Int.lt_or_le (lst acc + 1 + s.vint.2) 18446744073709551616 with h1 | h1
      · exact h1
      · exact absurd ⟨hkh.1, h1⟩ hno
    simp only [linkF]
    rw [hke]
    refine ⟨v3, ⟨by simp only; omega, hlt, f2, f3, by simp only; omega⟩, by omega, ?_⟩
    rw [c] at f6
    rw [f6, v1, List.append_assoc]
    have e : lst acc + 1 + s.vint.2 - lst acc - 1 = s.vint.2 := by omega
    rw [e]
  · have hg := lst_ge hw
    obtain ⟨x1, x2, x3, x4, x5⟩ := hx
    simp only [linkF] at hr ⊢
    rw [List.append_assoc] at hr
    have hv := vint_own hc (by omega) (by omega) hr
    have hok := adv_ok h hr
    have hke : s.lkHead acc = s.adv ((vb (x.st - lst acc - 1)).length : Int) := by
      unfold RS.lkHead; rw [hv]; simp only; rw [if_neg (by omega)]
    have hr2 : (s.adv ((vb (x.st - lst acc - 1)).length : Int)).rest = fallB pos x.bk ++ r := by rw [adv_rest h.at0, hr, List.drop_left]
    have hfo := fall_own (m := 4) hok (show (s.adv ((vb (x.st - lst acc - 1)).length : Int)).code = 0 from hc) p1 x3 x4 (by omega) (by omega) hr2
    rw [hke, hfo, hv, adv_adv]
    simp only [Prod.mk.injEq]
    refine ⟨by rw [List.length_append]; rfl, ?_⟩
    cases x
    simp only [Lk.mk.injEq, and_true]
    simp only at x1
    omega
  · have hg := lst_ge hw
    obtain ⟨x1, x2, x3, x4, x5⟩ := hx
    intro y hy
    rcases List.mem_append.1 hy with hy | hy
    · exact vb_by (by omega) (by omega) y hy
    · exact fallB_bys p1 x3 x4 (by omega) y hy
/-- Do links rise by their streams? -/
def risesL (l : List Lk) : Bool := (List.range l.length).all fun i => decide (i = 0 ∨ (l.getD (i - 1) lk0).st < (l.getD i lk0).st)
theorem risesL_iff {l : List Lk} : risesL l = true ↔ ∀ i, i < l.length → 0 < i → (l.getD (i - 1) lk0).st < (l.getD i lk0).st := by
  unfold risesL
  rw [List.all_eq_true]
  constructor
  · intro h i hi h0
    have := h i (List.mem_range.2 hi)
    simp only [decide_eq_true_eq] at this
    omega
  · intro h i hi
    simp only [decide_eq_true_eq]
    rcases Nat.eq_zero_or_pos i with h0 | h0
    · exact .inl h0
    · exact .inr (h i (List.mem_range.1 hi) h0)
def goodL (pos : Int) (x : Lk) : Bool := decide (x.bk.length ≤ 4) && falls pos x.bk
theorem goodL_iff {pos : Int} {x : Lk} : goodL pos x = true ↔ x.bk.length ≤ 4 ∧ falls pos x.bk = true := by simp [goodL]
/-- Are links well-formed? -/
def rightL (pos : Int) (l : List Lk) : Bool := decide (l.length ≤ 16) && risesL l && l.all (goodL pos)
theorem rightL_iff {pos : Int} {l : List Lk} : rightL pos l = true ↔ l.length ≤ 16 ∧ risesL l = true ∧ ∀ x ∈ l, goodL pos x = true := by
  simp [rightL, and_assoc]
theorem lk_mem (l : List Lk) (k : Nat) (h : k < l.length) : l.getD k lk0 ∈ l := by simp [h]
/-- How links are written. -/
def linksB (pos : Int) (l : List Lk) : List Int := vb l.length ++ encs (linkF pos).enc [] l
/-- The reader behind links, and these. -/
def RS.links (s : RS) (pos : Int) : RS × List Lk := (linkF pos).counted 16 s
theorem links_keep {s : RS} {pos : Int} (h : ROk s) (p0 : 0 ≤ pos) (p1 : pos < 18446744073709551616) : ROk (s.links pos).1 ∧ (s.links pos).1.l = s.l := counted_keep (linkF_ok p0 p1) h 16
end Go.Proofs.Ytnfagphepkeedaa
end
section
namespace Go.Proofs.Ytnfagphepkeedaa
open Go.RowKit

/-- A link, links. -/
abbrev lkA (x : Lk) : AV := .agg [uA x.st, slU x.bk]
def lks (l : List Lk) : List AV := l.map lkA
abbrev slL (l : List Lk) : AV := .sl .none 2 (lks l)
@[simp] theorem ren_lks (ρ : Nat → Nat) (l : List Lk) : (lks l).map (fun x => x.ren ρ) = lks l := by
  have h : ∀ (k : IntKind) (m : List Int), (ints k m).map (fun x => x.ren ρ) = ints k m := ren_ints ρ
  simp [lks, ixs_z]
@[simp] theorem ren_ints_l (ρ : Nat → Nat) (k : IntKind) (l : List Int) : (ints k l).map (fun x => x.ren ρ) = ints k l := ren_ints ρ k l
theorem lks_length (l : List Lk) : (lks l).length = l.length := by simp [lks]
theorem lks_get (l : List Lk) (k : Nat) (h : k < l.length) : (lks l).getD k .any = lkA (l.getD k lk0) := by simp [lks, h]
theorem lk_take (l : List Lk) (k : Nat) (h : k < l.length) : l.take (k + 1) = l.take k ++ [l.getD k lk0] := by
  rw [List.take_succ_eq_append_getElem h]; simp [h]
theorem Lks.take {l : List Lk} (h : Lks l) (k : Nat) : Lks (l.take k) := fun x hx => h x (List.mem_of_mem_take hx)
theorem i64_pred (k : Nat) (h0 : 0 < k) (h : k < 140737488355328) : IntKind.i64.wrap ((k : Int) - 1) = ((k - 1 : Nat) : Int) := by rw [IntWalk.i64_in _ (by omega)]; omega
theorem link_stream0 (x : Lk) : Does Try.prog 36 [lkA x] [] (uA x.st) [] := by
  refine Does.runA Try.func36 b36 n36 Try.ntmps36 ?_; simp only [c36, go_sem, Nat.reduceAdd, Nat.reduceMul, Int.reduceToNat, Nat.reduceLeDiff, Int.reduceLE, Int.reduceLT, ↓reduceIte, Int.reduceBEq, Int.reduceBNe, Int.reduceAdd, Int.reduceSub, Int.reduceMul]; try refine okTr_and rfl ?_
  exact FinK.finA r36 []
theorem link_stream (x : Lk) : Ct Try.prog 36 [lkA x] [] (fun _ => uA x.st) [] (fun _ => []) := (link_stream0 x).toCt cl cl
set_option maxRecDepth 100000 in
theorem link_rises0 (l : List Lk) (hn : l.length ≤ 1000000) : Does Try.prog 35 [slL l, .fn 36 [] []] [] (bA (risesL l)) [] := by
  refine Does.runA Try.func35 b35 n35 Try.ntmps35 ?_; simp only [c35, go_sem, Nat.reduceAdd, Nat.reduceMul, Int.reduceToNat, Nat.reduceLeDiff, Int.reduceLE, Int.reduceLT, ↓reduceIte, Int.reduceBEq, Int.reduceBNe, Int.reduceAdd, Int.reduceSub, Int.reduceMul, lks_length]; try refine okTr_and rfl ?_
  refine loop_of (α := Nat) (fun k => [slL l, .fn 36 [] [], .any, .any, .any, .any, .any, iA l.length, iA k, .any, .any, .any, .any, .any, .any, .any, .any, .any, .any, .any, .any, .any, .any, .any, .any, .any, .any, .any, .any, .any]) (fun _ => []) (fun k => k ≤ l.length ∧ ∀ i, i < k → 0 < i → (l.getD (i - 1) lk0).st < (l.getD i lk0).st) (fun k => l.length - k) 0 ⟨by simp, fun i hi => by omega⟩ (Wk.to (by simp) (by simp [leT])) ?_
  rintro k ⟨hk, hall⟩
  (simp only [go_sem, Nat.reduceAdd, Nat.reduceMul, Int.reduceToNat, Nat.reduceLeDiff, Int.reduceLE, Int.reduceLT, ↓reduceIte, Int.reduceBEq, Int.reduceBNe, Int.reduceAdd, Int.reduceSub, Int.reduceMul]; try refine okTr_and rfl ?_)
  by_cases hlt : k < l.length
  · have q1 : decide ((k : Int) < (l.length : Int)) = true := by simp; omega
    have ek := i64_succ k (by omega)
    have g := lks_get l k hlt
    by_cases h0 : 0 < k
    · have q2 : decide ((0 : Int) < (k : Int)) = true := by simp; omega
      have ep := i64_pred k h0 (by omega)
      have g2 := lks_get l (k - 1) (by omega)
      (simp only [go_sem, Nat.reduceAdd, Nat.reduceMul, Int.reduceToNat, Nat.reduceLeDiff, Int.reduceLE, Int.reduceLT, ↓reduceIte, Int.reduceBEq, Int.reduceBNe, Int.reduceAdd, Int.reduceSub, Int.reduceMul, q1, q2, g, lks_length, Int.toNat_natCast]; try refine okTr_and rfl ?_)
      (repeat ((with_reducible refine And.intro ?_ ?_); (· exact sd)))
      refine CallK.p (link_stream (l.getD k lk0)) ?_; (simp only [go_sem, Nat.reduceAdd, Nat.reduceMul, Int.reduceToNat, Nat.reduceLeDiff, Int.reduceLE, Int.reduceLT, ↓reduceIte, Int.reduceBEq, Int.reduceBNe, Int.reduceAdd, Int.reduceSub, Int.reduceMul, ep, g2, lks_length, Int.toNat_natCast]; try refine okTr_and rfl ?_)
      (repeat ((with_reducible refine And.intro ?_ ?_); (· exact sd)))
      refine CallK.p (link_stream (l.getD (k - 1) lk0)) ?_
      by_cases hs : (l.getD k lk0).st ≤ (l.getD (k - 1) lk0).st
      · have q3 : decide ((l.getD k lk0).st ≤ (l.getD (k - 1) lk0).st) = true := by simpa using hs
        have e : risesL l = false := by
          cases hr : risesL l with
          | false => rfl
          | true => have := risesL_iff.1 hr k hlt h0; omega
        (simp only [go_sem, Nat.reduceAdd, Nat.reduceMul, Int.reduceToNat, Nat.reduceLeDiff, Int.reduceLE, Int.reduceLT, ↓reduceIte, Int.reduceBEq, Int.reduceBNe, Int.reduceAdd, Int.reduceSub, Int.reduceMul, q3]; try refine okTr_and rfl ?_)
        ((refine FinK.finB r35 [] ?_ ?_); (· first | with_reducible rfl | (simp [e]; done) | rfl); (· simp [resAL, resA1, loadA, oneOr, e]))
      · have q3 : decide ((l.getD k lk0).st ≤ (l.getD (k - 1) lk0).st) = false := by simpa using hs
        (simp only [go_sem, Nat.reduceAdd, Nat.reduceMul, Int.reduceToNat, Nat.reduceLeDiff, Int.reduceLE, Int.reduceLT, ↓reduceIte, Int.reduceBEq, Int.reduceBNe, Int.reduceAdd, Int.reduceSub, Int.reduceMul, q3, ek]; try refine okTr_and rfl ?_)
        exact ⟨k + 1, ⟨hlt, fun i hi h1 => by
          rcases Nat.lt_or_ge i k with h | h
          · exact hall i h h1
          · obtain rfl : i = k := by omega
            omega⟩, by omega, Wk.to (by simp) (by simp [leT])⟩
    · have q2 : decide ((0 : Int) < (k : Int)) = false := by simp; omega
      (simp only [go_sem, Nat.reduceAdd, Nat.reduceMul, Int.reduceToNat, Nat.reduceLeDiff, Int.reduceLE, Int.reduceLT, ↓reduceIte, Int.reduceBEq, Int.reduceBNe, Int.reduceAdd, Int.reduceSub, Int.reduceMul, q1, q2, ek]; try refine okTr_and rfl ?_)
      exact ⟨k + 1, ⟨hlt, fun i hi h1 => by omega⟩, by omega, Wk.to (by simp) (by simp [leT])⟩
  · have q1 : decide ((k : Int) < (l.length : Int)) = false := by simp; omega
    have e : risesL l = true := risesL_iff.2 fun i hi h0 => hall i (by omega) h0
    (simp only [go_sem, Nat.reduceAdd, Nat.reduceMul, Int.reduceToNat, Nat.reduceLeDiff, Int.reduceLE, Int.reduceLT, ↓reduceIte, Int.reduceBEq, Int.reduceBNe, Int.reduceAdd, Int.reduceSub, Int.reduceMul, q1]; try refine okTr_and rfl ?_)
    ((refine FinK.finB r35 [] ?_ ?_); (· first | with_reducible rfl | (simp [e]; done) | rfl); (· simp [resAL, resA1, loadA, oneOr, e]))
theorem link_rises (l : List Lk) (hn : l.length ≤ 1000000) : Ct Try.prog 35 [slL l, .fn 36 [] []] [] (fun _ => bA (risesL l)) [] (fun _ => []) := (link_rises0 l hn).toCt cl cl
theorem fidx_no {α : Type} {p : α → Bool} {l : List α} (h : ∀ x ∈ l, p x = false) : l.findIdx p = l.length := List.findIdx_eq_length.2 h
/-- The first of some links that a function with one thing in mind takes. -/
theorem link_place0 (f : FuncId) (o : AObj) (ok : Lk → Bool) (ho : ∀ ρ, o.ren ρ = o) (hd : o ≠ .dead) (l : List Lk) (hf : ∀ x ∈ l, ∀ i, Ct Try.prog f [lkA x, .ref i 0] [(i, o)] (fun _ => bA (ok x)) [] (fun _ => [])) (hn : l.length ≤ 1000000) :
    Does Try.prog 39 [slL l, .fn f [] [.ref 0 0]] [o] (iA (l.findIdx ok)) [o] := by
  refine Does.runA Try.func39 b39 n39 Try.ntmps39 ?_; simp only [c39, go_sem, Nat.reduceAdd, Nat.reduceMul, Int.reduceToNat, Nat.reduceLeDiff, Int.reduceLE, Int.reduceLT, ↓reduceIte, Int.reduceBEq, Int.reduceBNe, Int.reduceAdd, Int.reduceSub, Int.reduceMul, lks_length]; try refine okTr_and rfl ?_
  refine loop_of (α := Nat) (fun k => [slL l, .fn f [] [.ref 0 0], .any, .any, .any, .any, .any, slL l, iA l.length, iA k, .any, .any, .any, .any, .any, .any, .any, .any, .any, .any, .any]) (fun _ => [o]) (fun k => k ≤ l.length ∧ ∀ i (h : i < l.length), i < k → ok l[i] = false) (fun k => l.length - k) 0 ⟨by simp, fun i _ hi => by omega⟩ (Wk.to (by simp) (by simp [leT])) ?_
  rintro k ⟨hk, hall⟩
  (simp only [go_sem, Nat.reduceAdd, Nat.reduceMul, Int.reduceToNat, Nat.reduceLeDiff, Int.reduceLE, Int.reduceLT, ↓reduceIte, Int.reduceBEq, Int.reduceBNe, Int.reduceAdd, Int.reduceSub, Int.reduceMul]; try refine okTr_and rfl ?_)
  by_cases hlt : k < l.length
  · have q1 : decide ((k : Int) < (l.length : Int)) = true := by simp; omega
    have ek := i64_succ k (by omega)
    have g := lks_get l k hlt
    have eg : l.getD k lk0 = l[k] := by simp [hlt]
    have hm := lk_mem l k hlt
    have hfx := hf _ hm 0
    rw [eg] at g hfx
    (simp only [go_sem, Nat.reduceAdd, Nat.reduceMul, Int.reduceToNat, Nat.reduceLeDiff, Int.reduceLE, Int.reduceLT, ↓reduceIte, Int.reduceBEq, Int.reduceBNe, Int.reduceAdd, Int.reduceSub, Int.reduceMul, q1, g, lks_length, Int.toNat_natCast]; try refine okTr_and rfl ?_)
    (repeat ((with_reducible refine And.intro ?_ ?_); (· exact sd)))
    refine CallK.r1 (hfx) rfl ?_
    by_cases hs : ok l[k] = true
    · have e : l.findIdx ok = k := by
        rw [List.findIdx_eq hlt]
        exact ⟨hs, fun j hj => hall j (by omega) hj⟩
      (simp only [go_sem, Nat.reduceAdd, Nat.reduceMul, Int.reduceToNat, Nat.reduceLeDiff, Int.reduceLE, Int.reduceLT, ↓reduceIte, Int.reduceBEq, Int.reduceBNe, Int.reduceAdd, Int.reduceSub, Int.reduceMul, hs]; try refine okTr_and rfl ?_)
      ((refine FinK.finB r39 [0] ?_ ?_); (· first | with_reducible rfl | (simp [e, ho]; done) | rfl); (· simp [resAL, resA1, loadA, oneOr, e, ho]))
    · have hs' : ok l[k] = false := by simpa using hs
      (simp only [go_sem, Nat.reduceAdd, Nat.reduceMul, Int.reduceToNat, Nat.reduceLeDiff, Int.reduceLE, Int.reduceLT, ↓reduceIte, Int.reduceBEq, Int.reduceBNe, Int.reduceAdd, Int.reduceSub, Int.reduceMul, hs', ek]; try refine okTr_and rfl ?_)
      exact ⟨k + 1, ⟨hlt, fun i h hi => by
        rcases Nat.lt_or_ge i k with h1 | h1
        · exact hall i h h1
        · obtain rfl : i = k := by omega
          exact hs'⟩, by omega, Wk.sel [0] (by simp) rfl (by simp) rfl (by simp [ho]) (by simp [selT, ixs_z])⟩
  · have q1 : decide ((k : Int) < (l.length : Int)) = false := by simp; omega
    have e : l.findIdx ok = l.length := fidx_no fun x hx => by
      obtain ⟨i, hi, rfl⟩ := List.getElem_of_mem hx
      exact hall i hi (by omega)
    (simp only [go_sem, Nat.reduceAdd, Nat.reduceMul, Int.reduceToNat, Nat.reduceLeDiff, Int.reduceLE, Int.reduceLT, ↓reduceIte, Int.reduceBEq, Int.reduceBNe, Int.reduceAdd, Int.reduceSub, Int.reduceMul, q1, lks_length]; try refine okTr_and rfl ?_)
    ((refine FinK.finB r39 [0] ?_ ?_); (· first | with_reducible rfl | (simp [e, ho]; done) | rfl); (· simp [resAL, resA1, loadA, oneOr, e, ho]))
theorem link_place (f : FuncId) (o : AObj) (ok : Lk → Bool) (ho : ∀ ρ, o.ren ρ = o) (hd : o ≠ .dead) (l : List Lk) (hf : ∀ x ∈ l, ∀ i, Ct Try.prog f [lkA x, .ref i 0] [(i, o)] (fun _ => bA (ok x)) [] (fun _ => [])) (hn : l.length ≤ 1000000) (i : Nat) :
    Ct Try.prog 39 [slL l, .fn f [] [.ref i 0]] [(i, o)] (fun _ => iA (l.findIdx ok)) [] (fun _ => []) := Ct.r1 (link_place0 f o ok ho hd l hf hn) i cl ho hd clo
abbrev oneO (x : Int) : AObj := .cells [uA x]
theorem link_Right10 (pos : Int) (x : Lk) (hx : x.ok) (p0 : 0 ≤ pos) (p1 : pos < 18446744073709551616) (hn : x.bk.length ≤ 1000000) : Does Try.prog 37 [lkA x, .ref 0 0] [oneO pos] (bA (!goodL pos x)) [oneO pos] := by
  refine Does.runA Try.func37 b37 n37 Try.ntmps37 ?_; simp only [c37, go_sem, Nat.reduceAdd, Nat.reduceMul, Int.reduceToNat, Nat.reduceLeDiff, Int.reduceLE, Int.reduceLT, ↓reduceIte, Int.reduceBEq, Int.reduceBNe, Int.reduceAdd, Int.reduceSub, Int.reduceMul, ints_length]; try refine okTr_and rfl ?_
  by_cases h4 : x.bk.length ≤ 4
  · have q1 : decide (4 < (x.bk.length : Int)) = false := by simp; omega
    have e : goodL pos x = falls pos x.bk := by unfold goodL; rw [decide_eq_true h4]; simp
    (simp only [go_sem, Nat.reduceAdd, Nat.reduceMul, Int.reduceToNat, Nat.reduceLeDiff, Int.reduceLE, Int.reduceLT, ↓reduceIte, Int.reduceBEq, Int.reduceBNe, Int.reduceAdd, Int.reduceSub, Int.reduceMul, q1]; try refine okTr_and rfl ?_)
    refine CallK.p (delta_Falls pos x.bk p0 p1 hx.b (by omega)) ?_; (simp only [go_sem, Nat.reduceAdd, Nat.reduceMul, Int.reduceToNat, Nat.reduceLeDiff, Int.reduceLE, Int.reduceLT, ↓reduceIte, Int.reduceBEq, Int.reduceBNe, Int.reduceAdd, Int.reduceSub, Int.reduceMul]; try refine okTr_and rfl ?_)
    ((refine FinK.finB r37 [0] ?_ ?_); (· first | with_reducible rfl | (simp [e]; done) | rfl); (· simp [resAL, resA1, loadA, oneOr, e]))
  · have q1 : decide (4 < (x.bk.length : Int)) = true := by simp; omega
    have e : goodL pos x = false := by unfold goodL; rw [decide_eq_false h4]; simp
    (simp only [go_sem, Nat.reduceAdd, Nat.reduceMul, Int.reduceToNat, Nat.reduceLeDiff, Int.reduceLE, Int.reduceLT, ↓reduceIte, Int.reduceBEq, Int.reduceBNe, Int.reduceAdd, Int.reduceSub, Int.reduceMul, q1]; try refine okTr_and rfl ?_)
    ((refine FinK.finB r37 [0] ?_ ?_); (· first | with_reducible rfl | (simp [e]; done) | rfl); (· simp [resAL, resA1, loadA, oneOr, e]))
theorem link_Right1 (pos : Int) (x : Lk) (hx : x.ok) (p0 : 0 ≤ pos) (p1 : pos < 18446744073709551616) (hn : x.bk.length ≤ 1000000) (i : Nat) : Ct Try.prog 37 [lkA x, .ref i 0] [(i, oneO pos)] (fun _ => bA (!goodL pos x)) [] (fun _ => []) :=
  Ct.r1 (link_Right10 pos x hx p0 p1 hn) i cl (fun ρ => by simp [ixs_z]) (by simp) clo
def Smalls (l : List Lk) : Prop := l.length ≤ 1000000 ∧ ∀ x ∈ l, x.bk.length ≤ 1000000
theorem link_Right0 (pos : Int) (l : List Lk) (hl : Lks l) (hm : Smalls l) (p0 : 0 ≤ pos) (p1 : pos < 18446744073709551616) : Does Try.prog 15 [uA pos, slL l] [] (bA (rightL pos l)) [] := by
  obtain ⟨hn, hb⟩ := hm
  refine Does.runA Try.func15 b15 n15 Try.ntmps15 ?_; simp only [c15, go_sem, Nat.reduceAdd, Nat.reduceMul, Int.reduceToNat, Nat.reduceLeDiff, Int.reduceLE, Int.reduceLT, ↓reduceIte, Int.reduceBEq, Int.reduceBNe, Int.reduceAdd, Int.reduceSub, Int.reduceMul, lks_length]; try refine okTr_and rfl ?_
  by_cases h16 : l.length ≤ 16
  · have q1 : decide (16 < (l.length : Int)) = false := by simp; omega
    (simp only [go_sem, Nat.reduceAdd, Nat.reduceMul, Int.reduceToNat, Nat.reduceLeDiff, Int.reduceLE, Int.reduceLT, ↓reduceIte, Int.reduceBEq, Int.reduceBNe, Int.reduceAdd, Int.reduceSub, Int.reduceMul, q1]; try refine okTr_and rfl ?_)
    refine CallK.p (link_rises l hn) ?_
    by_cases hr : risesL l = true
    · have he : rightL pos l = ((l.findIdx fun x => !goodL pos x : Nat) == l.length) := by
        rw [Bool.eq_iff_iff, rightL_iff, beq_iff_eq, List.findIdx_eq_length]
        simp [h16, hr]
      have he2 : (((l.findIdx fun x => !goodL pos x : Nat) : Int) == (l.length : Int)) = rightL pos l := by
        rw [he, Bool.eq_iff_iff, beq_iff_eq, beq_iff_eq]; omega
      (simp only [go_sem, Nat.reduceAdd, Nat.reduceMul, Int.reduceToNat, Nat.reduceLeDiff, Int.reduceLE, Int.reduceLT, ↓reduceIte, Int.reduceBEq, Int.reduceBNe, Int.reduceAdd, Int.reduceSub, Int.reduceMul, hr]; try refine okTr_and rfl ?_)
      refine CallK.r1 (link_place 37 (oneO pos) (fun x => !goodL pos x) (fun ρ => by simp [ixs_z]) (by simp) l (fun x hx i => link_Right1 pos x (hl x hx) p0 p1 (hb x hx) i) hn _) rfl ?_; (simp only [go_sem, Nat.reduceAdd, Nat.reduceMul, Int.reduceToNat, Nat.reduceLeDiff, Int.reduceLE, Int.reduceLT, ↓reduceIte, Int.reduceBEq, Int.reduceBNe, Int.reduceAdd, Int.reduceSub, Int.reduceMul, lks_length, he2]; try refine okTr_and rfl ?_)
      exact FinK.finA r15 []
    · have hr' : risesL l = false := by simpa using hr
      have he : rightL pos l = false := by simp [rightL, hr']
      (simp only [go_sem, Nat.reduceAdd, Nat.reduceMul, Int.reduceToNat, Nat.reduceLeDiff, Int.reduceLE, Int.reduceLT, ↓reduceIte, Int.reduceBEq, Int.reduceBNe, Int.reduceAdd, Int.reduceSub, Int.reduceMul, hr']; try refine okTr_and rfl ?_)
      ((refine FinK.finB r15 [] ?_ ?_); (· first | with_reducible rfl | (simp [he]; done) | rfl); (· simp [resAL, resA1, loadA, oneOr, he]))
  · have q1 : decide (16 < (l.length : Int)) = true := by simp; omega
    have he : rightL pos l = false := by simp [rightL, h16]
    (simp only [go_sem, Nat.reduceAdd, Nat.reduceMul, Int.reduceToNat, Nat.reduceLeDiff, Int.reduceLE, Int.reduceLT, ↓reduceIte, Int.reduceBEq, Int.reduceBNe, Int.reduceAdd, Int.reduceSub, Int.reduceMul, q1]; try refine okTr_and rfl ?_)
    ((refine FinK.finB r15 [] ?_ ?_); (· first | with_reducible rfl | (simp [he]; done) | rfl); (· simp [resAL, resA1, loadA, oneOr, he]))
theorem link_Right (pos : Int) (l : List Lk) (hl : Lks l) (hm : Smalls l) (p0 : 0 ≤ pos) (p1 : pos < 18446744073709551616) : Ct Try.prog 15 [uA pos, slL l] [] (fun _ => bA (rightL pos l)) [] (fun _ => []) := (link_Right0 pos l hl hm p0 p1).toCt cl cl
/-- By how much a stream is above the one ahead. -/
def stpL (l : List Lk) (i : Nat) : Int := (l.getD i lk0).st - lst (l.take i) - 1
def stpsL (l : List Lk) (k : Nat) : List Int := (List.range k).map (stpL l)
theorem stpsL_succ (l : List Lk) (k : Nat) : stpsL l (k + 1) = stpsL l k ++ [stpL l k] := by simp [stpsL, List.range_succ]
theorem stpsL_len (l : List Lk) (k : Nat) : (stpsL l k).length = k := by simp [stpsL]
theorem stpsL_get (l : List Lk) (n k : Nat) (h : k < n) : (stpsL l n).getD k 0 = stpL l k := by simp [stpsL, h]
theorem stpL_range {l : List Lk} (hl : Lks l) (hr : risesL l = true) {i : Nat} (hi : i < l.length) : 0 ≤ stpL l i ∧ stpL l i < 18446744073709551616 := by
  have ho := hl _ (lk_mem l i hi)
  have h0 := ho.s0
  have h1 := ho.s1
  unfold stpL
  rw [lst_take l i (by omega)]
  split
  · omega
  · rename_i hz
    have := risesL_iff.1 hr i hi (by omega)
    have hp := (hl _ (lk_mem l (i - 1) (by omega))).s0
    omega
set_option maxRecDepth 100000 in
theorem link_steps0 (l : List Lk) (hl : Lks l) (hr : risesL l = true) (hn : l.length ≤ 1000000) : Does Try.prog 52 [slL l] [] (slU (stpsL l l.length)) [] := by
  refine Does.runA Try.func52 b52 n52 Try.ntmps52 ?_; simp only [c52, go_sem, Nat.reduceAdd, Nat.reduceMul, Int.reduceToNat, Nat.reduceLeDiff, Int.reduceLE, Int.reduceLT, ↓reduceIte, Int.reduceBEq, Int.reduceBNe, Int.reduceAdd, Int.reduceSub, Int.reduceMul, lks_length]; try refine okTr_and rfl ?_
  refine loop_of (α := Nat) (fun k => [slL l, .any, .any, .sl (.row 0) 1 (ints .u64 (stpsL l k)), .any, .any, .any, slL l, iA l.length, iA k, .any, .any, .any, .any, .any, .any, .any, .any, .any, .any, .any, .any, .any, .any, .any, .any, .any, .any, .any, .any, .any, .any, .any]) (fun k => [.row 1 k]) (fun k => k ≤ l.length) (fun k => l.length - k) 0 (by simp) ((Wk.row 3 1 rfl (.inl rfl) (by decide)).trans (Wk.to (by simp) (by simp [leT, ints, stpsL]))) ?_
  intro k hk
  have hkl := stpsL_len l k
  (simp only [go_sem, Nat.reduceAdd, Nat.reduceMul, Int.reduceToNat, Nat.reduceLeDiff, Int.reduceLE, Int.reduceLT, ↓reduceIte, Int.reduceBEq, Int.reduceBNe, Int.reduceAdd, Int.reduceSub, Int.reduceMul]; try refine okTr_and rfl ?_)
  by_cases hlt : k < l.length
  · have q1 : decide ((k : Int) < (l.length : Int)) = true := by simp; omega
    have ek := i64_succ k (by omega)
    have g := lks_get l k hlt
    have ho := hl _ (lk_mem l k hlt)
    have hs := stpL_range hl hr hlt
    have hss := stpsL_succ l k
    have est : stpL l k = if k = 0 then (l.getD k lk0).st else (l.getD k lk0).st - (l.getD (k - 1) lk0).st - 1 := by
      unfold stpL
      rw [lst_take l k (by omega)]
      split
      · omega
      · rfl
    by_cases h0 : 0 < k
    · have q2 : decide ((0 : Int) < (k : Int)) = true := by simp; omega
      rw [if_neg (by omega)] at est
      have ep := i64_pred k h0 (by omega)
      have g2 := lks_get l (k - 1) (by omega)
      have hp := hl _ (lk_mem l (k - 1) (by omega))
      have hp0 := hp.s0
      have ho1 := ho.s1
      have w1 : IntKind.u64.wrap ((l.getD (k - 1) lk0).st + 1) = (l.getD (k - 1) lk0).st + 1 := IntWalk.u64_in _ (by omega)
      have w2 : IntKind.u64.wrap ((l.getD k lk0).st - ((l.getD (k - 1) lk0).st + 1)) = stpL l k := by rw [IntWalk.u64_in _ (by omega)]; omega
      (simp only [go_sem, Nat.reduceAdd, Nat.reduceMul, Int.reduceToNat, Nat.reduceLeDiff, Int.reduceLE, Int.reduceLT, ↓reduceIte, Int.reduceBEq, Int.reduceBNe, Int.reduceAdd, Int.reduceSub, Int.reduceMul, q1, q2, g, g2, ep, w1, w2, lks_length, Int.toNat_natCast]; try refine okTr_and rfl ?_)
      (repeat ((with_reducible refine And.intro ?_ ?_); (· exact sd)))
      (simp only [go_sem, Nat.reduceAdd, Nat.reduceMul, Int.reduceToNat, Nat.reduceLeDiff, Int.reduceLE, Int.reduceLT, ↓reduceIte, Int.reduceBEq, Int.reduceBNe, Int.reduceAdd, Int.reduceSub, Int.reduceMul, ints_snoc, ← hss, ints_length, hkl, ek]; try refine okTr_and rfl ?_)
      (repeat ((with_reducible refine And.intro ?_ ?_); (· exact sd)))
      exact ⟨k + 1, by omega, by omega, Wk.sel [0] (by simp) rfl (by simp) rfl (by simp [ixs_z]) (by simp [selT, ixs_z])⟩
    · have q2 : decide ((0 : Int) < (k : Int)) = false := by simp; omega
      rw [if_pos (by omega)] at est
      (simp only [go_sem, Nat.reduceAdd, Nat.reduceMul, Int.reduceToNat, Nat.reduceLeDiff, Int.reduceLE, Int.reduceLT, ↓reduceIte, Int.reduceBEq, Int.reduceBNe, Int.reduceAdd, Int.reduceSub, Int.reduceMul, q1, q2, g, ← est, ints_snoc, ← hss, ints_length, hkl, ek, lks_length, Int.toNat_natCast]; try refine okTr_and rfl ?_)
      (repeat ((with_reducible refine And.intro ?_ ?_); (· exact sd)))
      exact ⟨k + 1, by omega, by omega, Wk.sel [0] (by simp) rfl (by simp) rfl (by simp [ixs_z]) (by simp [selT, ixs_z])⟩
  · have q1 : decide ((k : Int) < (l.length : Int)) = false := by simp; omega
    have ek : k = l.length := by omega
    (simp only [go_sem, Nat.reduceAdd, Nat.reduceMul, Int.reduceToNat, Nat.reduceLeDiff, Int.reduceLE, Int.reduceLT, ↓reduceIte, Int.reduceBEq, Int.reduceBNe, Int.reduceAdd, Int.reduceSub, Int.reduceMul, q1]; try refine okTr_and rfl ?_)
    (refine FinK.untag 2 rfl ?_; simp only [untag1_sl, List.set_cons_zero, List.set_cons_succ])
    ((refine FinK.finB r52 [] ?_ ?_); (· first | with_reducible rfl | (simp [ek]; done) | rfl); (· simp [resAL, resA1, loadA, oneOr, ek]))
theorem link_steps (l : List Lk) (hl : Lks l) (hr : risesL l = true) (hn : l.length ≤ 1000000) : Ct Try.prog 52 [slL l] [] (fun _ => slU (stpsL l l.length)) [] (fun _ => []) := (link_steps0 l hl hr hn).toCt cl cl
/-- A writer behind the first k links. -/
def WS.lkN (s : WS) (pos : Int) (l : List Lk) : Nat → WS
  | 0 => s.put (vb l.length)
  | k + 1 => ((s.lkN pos l k).put (vb (stpL l k))).fall pos (l.getD k lk0).bk
def WS.links (s : WS) (pos : Int) (l : List Lk) : WS := if rightL pos l = true then s.lkN pos l l.length else s.fail 3
theorem WS.fine.fall {s : WS} (h : s.fine) (b : Int) (l : List Int) : (s.fall b l).fine := by
  unfold WS.fall
  split
  · exact (h.put _).puts _
  · exact h.fail 3
theorem WS.fine.lkN {s : WS} (h : s.fine) (pos : Int) (l : List Lk) : ∀ k, (s.lkN pos l k).fine := by
  intro k
  induction k with
  | zero => exact h.put _
  | succ k ih => exact (ih.put _).fall _ _
theorem WS.fine.links {s : WS} (h : s.fine) (pos : Int) (l : List Lk) : (s.links pos l).fine := by
  unfold WS.links; split
  · exact h.lkN pos l _
  · exact h.fail 3
set_option maxRecDepth 100000 in
theorem link_Put0 (s : WS) (pos : Int) (l : List Lk) (hs : s.fine) (hl : Lks l) (hm : Smalls l) (p0 : 0 ≤ pos) (p1 : pos < 18446744073709551616) : Does Try.prog 33 [.ref 0 0, uA pos, slL l] [wob 1 s, wrow s] (.tup []) [wob 1 (s.links pos l), wrow (s.links pos l)] := by
  have hn := hm.1
  have e := len_u64 l (by omega)
  refine Does.runA Try.func33 b33 n33 Try.ntmps33 ?_; simp only [c33, go_sem, Nat.reduceAdd, Nat.reduceMul, Int.reduceToNat, Nat.reduceLeDiff, Int.reduceLE, Int.reduceLT, ↓reduceIte, Int.reduceBEq, Int.reduceBNe, Int.reduceAdd, Int.reduceSub, Int.reduceMul]; try refine okTr_and rfl ?_
  refine CallK.p (link_Right pos l hl hm p0 p1) ?_
  by_cases hr : rightL pos l = true
  · obtain ⟨r1, r2, r3⟩ := rightL_iff.1 hr
    (simp only [go_sem, Nat.reduceAdd, Nat.reduceMul, Int.reduceToNat, Nat.reduceLeDiff, Int.reduceLE, Int.reduceLT, ↓reduceIte, Int.reduceBEq, Int.reduceBNe, Int.reduceAdd, Int.reduceSub, Int.reduceMul, hr, lks_length, e]; try refine okTr_and rfl ?_)
    refine CallK.u2 (varint_Put s l.length 0 1 (by decide) (by omega) (by omega) hs.ok (hs.room _)) rfl rfl ?_; (simp only [go_sem, Nat.reduceAdd, Nat.reduceMul, Int.reduceToNat, Nat.reduceLeDiff, Int.reduceLE, Int.reduceLT, ↓reduceIte, Int.reduceBEq, Int.reduceBNe, Int.reduceAdd, Int.reduceSub, Int.reduceMul]; try refine okTr_and rfl ?_)
    refine CallK.p (link_steps l hl r2 hn) ?_; (simp only [go_sem, Nat.reduceAdd, Nat.reduceMul, Int.reduceToNat, Nat.reduceLeDiff, Int.reduceLE, Int.reduceLT, ↓reduceIte, Int.reduceBEq, Int.reduceBNe, Int.reduceAdd, Int.reduceSub, Int.reduceMul, ints_length, stpsL_len]; try refine okTr_and rfl ?_)
    refine loop_of (α := Nat) (fun k => [.ref 0 0, uA pos, slL l, .any, .any, .any, .any, .any, .any, .any, .any, .any, .any, .any, .any, .any, .any, .any, .any, .any, slU (stpsL l l.length), iA l.length, iA k, .any, .any, .any, .any, .any, .any, .any, .any, .any, .any, .any, .any, .any, .any, .any, .any]) (fun k => [wob 1 (s.lkN pos l k), wrow (s.lkN pos l k)]) (fun k => k ≤ l.length) (fun k => l.length - k) 0 (by simp) (Wk.to (by rfl) (by simp [leT])) ?_
    intro k hk
    have hf := hs.lkN pos l k
    (simp only [go_sem, Nat.reduceAdd, Nat.reduceMul, Int.reduceToNat, Nat.reduceLeDiff, Int.reduceLE, Int.reduceLT, ↓reduceIte, Int.reduceBEq, Int.reduceBNe, Int.reduceAdd, Int.reduceSub, Int.reduceMul]; try refine okTr_and rfl ?_)
    by_cases hlt : k < l.length
    · have q1 : decide ((k : Int) < (l.length : Int)) = true := by simp; omega
      have ek := i64_succ k (by omega)
      have g := lks_get l k hlt
      have g2 := u64_get (stpsL l l.length) k (by rw [stpsL_len]; exact hlt)
      rw [stpsL_get l _ k hlt, Int.toNat_natCast] at g2
      have hx := stpL_range hl r2 hlt
      have ho := hl _ (lk_mem l k hlt)
      have hsm := hm.2 _ (lk_mem l k hlt)
      (simp only [go_sem, Nat.reduceAdd, Nat.reduceMul, Int.reduceToNat, Nat.reduceLeDiff, Int.reduceLE, Int.reduceLT, ↓reduceIte, Int.reduceBEq, Int.reduceBNe, Int.reduceAdd, Int.reduceSub, Int.reduceMul, q1, g2, ints_length, stpsL_len, Int.toNat_natCast]; try refine okTr_and rfl ?_)
      (repeat ((with_reducible refine And.intro ?_ ?_); (· exact sd)))
      refine CallK.u2 (varint_Put (s.lkN pos l k) (stpL l k) 0 1 (by decide) hx.1 hx.2 hf.ok (hf.room _)) rfl rfl ?_; (simp only [go_sem, Nat.reduceAdd, Nat.reduceMul, Int.reduceToNat, Nat.reduceLeDiff, Int.reduceLE, Int.reduceLT, ↓reduceIte, Int.reduceBEq, Int.reduceBNe, Int.reduceAdd, Int.reduceSub, Int.reduceMul, g, lks_length, Int.toNat_natCast]; try refine okTr_and rfl ?_)
      (repeat ((with_reducible refine And.intro ?_ ?_); (· exact sd)))
      refine CallK.u2 (delta_Put ((s.lkN pos l k).put (vb (stpL l k))) pos (l.getD k lk0).bk 0 1 (by decide) (hf.put _) p0 p1 ho.b (by omega)) rfl rfl ?_; (simp only [go_sem, Nat.reduceAdd, Nat.reduceMul, Int.reduceToNat, Nat.reduceLeDiff, Int.reduceLE, Int.reduceLT, ↓reduceIte, Int.reduceBEq, Int.reduceBNe, Int.reduceAdd, Int.reduceSub, Int.reduceMul, ek]; try refine okTr_and rfl ?_)
      exact ⟨k + 1, by omega, by omega, Wk.to (by rfl) (by simp [leT])⟩
    · have q1 : decide ((k : Int) < (l.length : Int)) = false := by simp; omega
      have ek : k = l.length := by omega
      subst ek
      (simp only [go_sem, Nat.reduceAdd, Nat.reduceMul, Int.reduceToNat, Nat.reduceLeDiff, Int.reduceLE, Int.reduceLT, ↓reduceIte, Int.reduceBEq, Int.reduceBNe, Int.reduceAdd, Int.reduceSub, Int.reduceMul, q1]; try refine okTr_and rfl ?_)
      ((refine FinK.finB r33 [0, 1] ?_ ?_); (· first | with_reducible rfl | (simp [WS.links, hr]; done) | rfl); (· simp [resAL, resA1, loadA, oneOr, WS.links, hr]))
  · have hr' : rightL pos l = false := by simpa using hr
    (simp only [go_sem, Nat.reduceAdd, Nat.reduceMul, Int.reduceToNat, Nat.reduceLeDiff, Int.reduceLE, Int.reduceLT, ↓reduceIte, Int.reduceBEq, Int.reduceBNe, Int.reduceAdd, Int.reduceSub, Int.reduceMul, hr']; try refine okTr_and rfl ?_)
    refine CallK.u2 (Writer_Fail s 3 0 1 (by decide)) rfl rfl ?_; (simp only [go_sem, Nat.reduceAdd, Nat.reduceMul, Int.reduceToNat, Nat.reduceLeDiff, Int.reduceLE, Int.reduceLT, ↓reduceIte, Int.reduceBEq, Int.reduceBNe, Int.reduceAdd, Int.reduceSub, Int.reduceMul]; try refine okTr_and rfl ?_)
    ((refine FinK.finB r33 [0, 1] ?_ ?_); (· first | with_reducible rfl | (simp [WS.links, hr']; done) | rfl); (· simp [resAL, resA1, loadA, oneOr, WS.links, hr']))
theorem link_Put (s : WS) (pos : Int) (l : List Lk) (i j : Nat) (h : i ≠ j) (hs : s.fine) (hl : Lks l) (hm : Smalls l) (p0 : 0 ≤ pos) (p1 : pos < 18446744073709551616) : Ct Try.prog 33 [.ref i 0, uA pos, slL l] [(i, wob j s), (j, wrow s)] (fun _ => .tup []) [(i, wob j (s.links pos l)), (j, wrow (s.links pos l))] (fun _ => []) := Ct.u2 (link_Put0 s pos l hs hl hm p0 p1) i j h cl cl cl cl cl (wob_dead _ _) (wrow_dead _) clo
end Go.Proofs.Ytnfagphepkeedaa
end
section
namespace Go.Proofs.Ytnfagphepkeedaa
open Go.RowKit

end Go.Proofs.Ytnfagphepkeedaa
end
section
namespace Go.Proofs.Ytnfagphepkeedaa
open Go.RowKit

section
variable {P : Program} {f : FuncId} {args args₀ : List AV} {S : List AObj} {K : KT}
/-- A row that is given, and grows. -/
theorem Ct.o1 {o o' : AObj} {r₀ r : AV} (h : Does P f args₀ [o] r₀ [o']) (i : Nat) (ha : ∀ N, args₀.map (fun x => x.ren (ixs [i] N)) = args) (ho : ∀ ρ, o.ren ρ = o) (ho' : ∀ ρ, o'.ren ρ = o') (hd : o ≠ .dead) (hr : ∀ N, r₀.ren (ixs [i] N) = r) :
    Ct P f args [(i, o)] (fun _ => r) [(i, o')] (fun _ => []) :=
  Ct.mk h [i] (by simp) rfl (by simp) (by simpa using hd) (fun n N => ha N) (fun n N => by simpa using hr N) (fun n N => by simp [ho]) (.inl fun n N => by simp [ho']) (fun n N => rfl)
theorem CallK.o1 {r : AV} {i : Nat} {o o' : AObj} (h : Ct P f args [(i, o)] (fun _ => r) [(i, o')] (fun _ => [])) (hS : S[i]? = some o) (hK : K r [i] [(i, o')] []) : CallK P f args S K := CallK.of h (by simpa using hS) (by simp) hK
end
/-- A value told without whose any of its slices are, within it, too. -/
def untD : AV → AV
  | .sl _ k xs => .sl .none k (xs.map fun x => untD x)
  | .agg xs => .agg (xs.map fun x => untD x)
  | x => x
theorem untD_cells (x : AV) : (untD x).cells = x.cells.map fun x => untD x := by
  cases x <;> simp [untD, AV.cells]
theorem rep_untD {G : Gh} {x : AV} {v : Value} (r : Rep G x v) : Rep G (untD x) v := by
  induction r with
  | lit v => rw [untD]; exact .lit v; all_goals (intros; contradiction)
  | any v => rw [untD]; exact .any v; all_goals (intros; contradiction)
  | ref h => rw [untD]; exact .ref h; all_goals (intros; contradiction)
  | iptr vs h1 h2 h3 _ => rw [untD]; exact .iptr vs h1 h2 h3; all_goals (intros; contradiction)
  | @sl t k xs A c b o vs hc hA hk h1 h2 _ ht ih =>
    rw [untD]
    have hlen : (xs.map fun x => untD x).length = xs.length := by simp
    have := Rep.sl (G := G) (t := .none) (k := k) (xs := xs.map fun x => untD x) (A := A) (c := c) (b := b) (o := o) vs (by rw [hlen]; exact hc) (by rw [hlen]; exact hA) (fun i x hx => ?_) (by rw [hlen]; exact h1) (by rw [hlen]; exact h2) (fun i j x y hx hy => ?_) trivial
    · rw [hlen] at this; exact this
    · obtain ⟨z, hz, rfl⟩ := map_get hx
      rw [untD_cells, List.length_map]; exact hk i z hz
    · obtain ⟨z, hz, rfl⟩ := map_get hx
      rw [untD_cells] at hy
      obtain ⟨q, hq, rfl⟩ := map_get hy
      exact ih i j z q hz hq
  | agg h0 h2 _ ih =>
    rw [untD]
    refine .agg (by simpa using h0) h2 (fun j x v hx hv => ?_)
    obtain ⟨z, hz, rfl⟩ := map_get hx
    exact ih j z v hz hv
  | tup h0 h3 _ => rw [untD]; exact .tup h0 h3; all_goals (intros; contradiction)
  | fn hf hc h1 h2 _ _ => rw [untD]; exact .fn hf hc h1 h2; all_goals (intros; contradiction)
  | ms h h0 => rw [untD]; exact .ms h h0; all_goals (intros; contradiction)
  | mref h => rw [untD]; exact .mref h; all_goals (intros; contradiction)
  | slc h _ => rw [untD]; exact .slc h; all_goals (intros; contradiction)
section
variable {P : Program} {f : FuncId} {args args' : List AV} {S : List AObj} {K : KT}
end
section
variable {P : Program} {f : FuncId} {args args' : List AV} {S : List AObj} {K : KT} {m : Nat} {fn : Func}
/-- A contract on such as are told less exactly. -/
theorem Ct.deep {rd : List (Nat × AObj)} {r : Nat → AV} {upd : List (Nat × AObj)} {new : Nat → List AObj} (h : Ct P f args' rd r upd new) (he : args.map untD = args') : Ct P f args rd r upd new := fun T n h1 h2 => by
  have hd := h T n h1 h2
  refine ⟨hd.1, fun G w vs hw hr => hd.2 G w vs hw ⟨by rw [← he]; simpa using hr.1, fun j x v hx hv => ?_⟩⟩
  rw [← he] at hx
  obtain ⟨y, hy, rfl⟩ := map_get hx
  exact rep_untD (hr.2 j y v hy hv)
theorem Wk.less {tm : List AV} {S : List AObj} (g : AV → AV) (hg : ∀ {G : Gh} {x : AV} {v : Value}, Rep G x v → Rep G (g x) v) (t : Nat) {x : AV} (ht : tm[t]? = some x) : Wk m tm S (tm.set t (g x)) S := fun G0 S0 w0 G a w _ hz => by
  have htl := (List.getElem?_eq_some_iff.1 ht).1
  refine ⟨G, hz.left, by simp [hz.size], fun t' y v hy hv => ?_, hz.defers, hz.wd0⟩
  by_cases e : t' = t
  · subst e
    simp [htl] at hy; subst hy
    exact hg (hz.rep t' x v ht hv)
  · rw [List.getElem?_set_ne (Ne.symm e)] at hy
    exact hz.rep t' y v hy hv
theorem FinK.untD {tm : List AV} {S S' : List AObj} {r : AV} (t : Nat) {x : AV} (ht : tm[t]? = some x) (h : FinK P m fn (tm.set t (Proofs.Ytnfagphepkeedaa.untD x)) S r S') : FinK P m fn tm S r S' := FinK.wk (Wk.less Proofs.Ytnfagphepkeedaa.untD rep_untD t ht) h
end
/-- One value told less exactly than another: whose its slices are is forgotten, an empty slice is one of anything. -/
structure Wa (x y : AV) : Prop where
  len : x.cells.length = y.cells.length
  val : ∀ (G : Gh) (v : Value), Rep G x v → Rep G y v
  cel : ∀ (j : Nat) (a b : AV), x.cells[j]? = some a → y.cells[j]? = some b → ∀ (G : Gh) (v : Value), Rep G a v → Rep G b v
def WaL (xs ys : List AV) : Prop := xs.length = ys.length ∧ ∀ (j : Nat) (x y : AV), xs[j]? = some x → ys[j]? = some y → Wa x y
theorem Wa.refl (x : AV) : Wa x x := ⟨rfl, fun _ _ r => r, fun j a b ha hb G v r => by rw [ha] at hb; injection hb with hb; subst hb; exact r⟩
theorem WaL.nil : WaL [] [] := ⟨rfl, fun j x y h => by simp at h⟩
theorem WaL.cons {x y : AV} {xs ys : List AV} (h : Wa x y) (k : WaL xs ys) : WaL (x :: xs) (y :: ys) := by
  refine ⟨by simp [k.1], fun j a b ha hb => ?_⟩
  cases j with
  | zero => simp at ha hb; subst ha hb; exact h
  | succ j => simp at ha hb; exact k.2 j a b ha hb
theorem WaL.refl (xs : List AV) : WaL xs xs := ⟨rfl, fun j x y hx hy => by rw [hx] at hy; injection hy with hy; subst hy; exact .refl _⟩
theorem WaL.map {α : Type} {f g : α → AV} (h : ∀ x, Wa (f x) (g x)) (l : List α) : WaL (l.map f) (l.map g) := ⟨by simp, fun j x y hx hy => by
  obtain ⟨a, ha, rfl⟩ := map_get hx
  obtain ⟨b, hb, rfl⟩ := map_get hy
  rw [ha] at hb; injection hb with hb; subst hb; exact h a⟩
theorem WaL.app {xs ys xs' ys' : List AV} (h : WaL xs ys) (k : WaL xs' ys') : WaL (xs ++ xs') (ys ++ ys') := by
  refine ⟨by simp [h.1, k.1], fun j x y hx hy => ?_⟩
  rw [List.getElem?_append] at hx hy
  rw [h.1] at hx
  split at hx
  · rename_i hl; rw [if_pos hl] at hy; exact h.2 j x y hx hy
  · rename_i hl; rw [if_neg hl] at hy; exact k.2 _ x y hx hy
theorem one_cel {x y : AV} (hx : x.cells = [x]) (hy : y.cells = [y]) (h : ∀ (G : Gh) (v : Value), Rep G x v → Rep G y v) : Wa x y := by
  refine ⟨by rw [hx, hy]; rfl, h, fun j a b ha hb G v r => ?_⟩
  rw [hx] at ha
  rw [hy] at hb
  cases j with
  | zero => simp at ha hb; subst ha hb; exact h G v r
  | succ j => simp at ha
theorem Wa.sl {t t' : Tag} {k k' : Nat} {xs ys : List AV} (ht : t' = .none ∨ t' = t) (hk : k = k' ∨ xs = []) (hw : WaL xs ys) : Wa (.sl t k xs) (.sl t' k' ys) := by
  obtain ⟨hl, h⟩ := hw
  refine one_cel rfl rfl fun G v r => ?_
  cases r with
  | @sl _ _ _ A c b o vs hc hA hk1 h1 h2 h3 ht1 =>
    have htag : TagOk G t' A ys.length c := by
      rcases ht with rfl | rfl
      · trivial
      · rw [← hl]; exact ht1
    have main : Rep G (.sl t' k' ys) (.slice A ys.length c) := by
      rcases hk with rfl | rfl
      · refine .sl (b := b) (o := o) vs (by rw [← hl]; exact hc) (by rw [← hl]; exact hA) (fun i y hy => ?_) (by rw [← hl]; exact h1) (by rw [← hl]; exact h2) (fun i j y z hy hz => ?_) htag
        · have hi : i < xs.length := by rw [hl]; exact (List.getElem?_eq_some_iff.1 hy).1
          have hx := List.getElem?_eq_getElem hi
          rw [← (h i _ y hx hy).len]; exact hk1 i _ hx
        · have hi : i < xs.length := by rw [hl]; exact (List.getElem?_eq_some_iff.1 hy).1
          have hx := List.getElem?_eq_getElem hi
          have hw := h i _ y hx hy
          have hj : j < xs[i].cells.length := by rw [hw.len]; exact (List.getElem?_eq_some_iff.1 hz).1
          have hu := List.getElem?_eq_getElem hj
          exact hw.cel j _ z hu hz G _ (h3 i j _ _ hx hu)
      · obtain rfl : ys = [] := List.eq_nil_of_length_eq_zero (by rw [← hl]; rfl)
        exact .sl (b := b) (o := o) vs (by simp) (by simp) (by simp) (by simp) (by simp) (by simp) htag
    rw [← hl] at main; exact main
theorem Wa.agg {xs ys : List AV} (hw : WaL xs ys) : Wa (.agg xs) (.agg ys) := by
  obtain ⟨hl, h⟩ := hw
  refine ⟨hl, fun G v r => ?_, fun j a b ha hb G v r => (h j a b ha hb).val G v r⟩
  cases r with
  | @agg _ vs h0 h2 h3 =>
    refine .agg (by rw [← hl]; exact h0) h2 fun j y v hy hv => ?_
    have hj : j < xs.length := by rw [hl]; exact (List.getElem?_eq_some_iff.1 hy).1
    have hx := List.getElem?_eq_getElem hj
    exact (h j _ y hx hy).val G v (h3 j _ v hx hv)
theorem Wa.tup {xs ys : List AV} (hw : WaL xs ys) : Wa (.tup xs) (.tup ys) := by
  obtain ⟨hl, h⟩ := hw
  refine one_cel rfl rfl fun G v r => ?_
  cases r with
  | @tup _ vs h0 h3 =>
    refine .tup (by rw [← hl]; exact h0) fun j y v hy hv => ?_
    have hj : j < xs.length := by rw [hl]; exact (List.getElem?_eq_some_iff.1 hy).1
    have hx := List.getElem?_eq_getElem hj
    exact (h j _ y hx hy).val G v (h3 j _ v hx hv)
theorem Wa.slN {t : Tag} {k : Nat} {xs ys : List AV} (h : WaL xs ys) : Wa (.sl t k xs) (.sl .none k ys) := .sl (.inl rfl) (.inl rfl) h
theorem Wa.none {t : Tag} {k : Nat} {xs : List AV} : Wa (.sl t k xs) (.sl .none k xs) := .slN (WaL.refl xs)
theorem Wa.slc {t : Tag} {k : Nat} {xs : List AV} : Wa (.sl t k xs) (.slc k xs) := one_cel rfl rfl fun G v r => .slc ((Wa.none (t := t)).val G v r)
theorem Wa.nil {t : Tag} {k k' : Nat} : Wa (.sl t k []) (.sl .none k' []) := .sl (.inl rfl) (.inr rfl) WaL.nil
section
variable {P : Program} {f : FuncId} {args args' : List AV} {S : List AObj} {m : Nat} {fn : Func} {tm : List AV}
end
end Go.Proofs.Ytnfagphepkeedaa
end
section
namespace Go.Proofs.Ytnfagphepkeedaa
open Go.RowKit

set_option maxRecDepth 100000 in
theorem ref23_Right0 (pos : Int) (l : List Lk) (hm : Smalls l) : Does Try.prog 13 [uA pos, slL l] [] (bA (rightL pos l)) [] := by
  obtain ⟨hn, hb⟩ := hm
  refine Does.runA Try.func13 b13 n13 Try.ntmps13 ?_; simp only [c13, go_sem, Nat.reduceAdd, Nat.reduceMul, Int.reduceToNat, Nat.reduceLeDiff, Int.reduceLE, Int.reduceLT, ↓reduceIte, Int.reduceBEq, Int.reduceBNe, Int.reduceAdd, Int.reduceSub, Int.reduceMul, lks_length]; try refine okTr_and rfl ?_
  by_cases h16 : l.length ≤ 16
  · have q0 : decide (16 < (l.length : Int)) = false := by simp; omega
    (simp only [go_sem, Nat.reduceAdd, Nat.reduceMul, Int.reduceToNat, Nat.reduceLeDiff, Int.reduceLE, Int.reduceLT, ↓reduceIte, Int.reduceBEq, Int.reduceBNe, Int.reduceAdd, Int.reduceSub, Int.reduceMul, q0]; try refine okTr_and rfl ?_)
    refine loop_of (α := Nat) (fun k => [uA pos, slL l, .any, .any, .any, iA k, .any, .any, .any, .any, .any, .any, .any, .any, .any, .any, .any, .any, .any, .any, .any, .any, .any, .any, .any, .any, .any, .any, .any, .any, .any, .any, .any, .any, .any, .any, .any, .any, .any, .any, .any, .any, .any, .any, .any, .any, .any, .any, .any, .any]) (fun _ => []) (fun k => k ≤ l.length ∧ ∀ i, i < k → (0 < i → (l.getD (i - 1) lk0).st < (l.getD i lk0).st) ∧ goodL pos (l.getD i lk0) = true) (fun k => l.length - k) 0 ⟨by simp, fun i hi => by omega⟩ (Wk.to (by simp) (by simp [leT])) ?_
    rintro k ⟨hk, hall⟩
    (simp only [go_sem, Nat.reduceAdd, Nat.reduceMul, Int.reduceToNat, Nat.reduceLeDiff, Int.reduceLE, Int.reduceLT, ↓reduceIte, Int.reduceBEq, Int.reduceBNe, Int.reduceAdd, Int.reduceSub, Int.reduceMul, lks_length]; try refine okTr_and rfl ?_)
    by_cases hlt : k < l.length
    · have q1 : decide ((k : Int) < (l.length : Int)) = true := by simp; omega
      have ek := i64_succ k (by omega)
      have g := lks_get l k hlt
      have hm := lk_mem l k hlt
      have hbk := hb _ hm
      obtain ⟨x, hx⟩ : ∃ x, l.getD k lk0 = x := ⟨_, rfl⟩
      rw [hx] at g hm hbk
      have hno : ∀ (h : rightL pos l = true), (0 < k → (l.getD (k - 1) lk0).st < x.st) ∧ x.bk.length ≤ 4 ∧ falls pos x.bk = true := fun h => by
        obtain ⟨r1, r2, r3⟩ := rightL_iff.1 h
        refine ⟨fun h0 => ?_, goodL_iff.1 (r3 x hm)⟩
        have := risesL_iff.1 r2 k hlt h0
        rw [hx] at this; exact this
      have bad : (0 < k ∧ ¬ (l.getD (k - 1) lk0).st < x.st) ∨ ¬ x.bk.length ≤ 4 ∨ ¬ falls pos x.bk = true → rightL pos l = false := fun h => by
        cases hr : rightL pos l with
        | false => rfl
        | true =>
          obtain ⟨a, b, c⟩ := hno hr
          rcases h with ⟨h1, h2⟩ | h | h
          · exact absurd (a h1) h2
          · exact absurd b h
          · exact absurd c h
      have good : (0 < k → (l.getD (k - 1) lk0).st < x.st) → x.bk.length ≤ 4 → falls pos x.bk = true → ∀ i, i < k + 1 → (0 < i → (l.getD (i - 1) lk0).st < (l.getD i lk0).st) ∧ goodL pos (l.getD i lk0) = true := fun h1 h2 h3 i hi => by
        rcases Nat.lt_or_ge i k with h | h
        · exact hall i h
        · obtain rfl : i = k := by omega
          rw [hx]; exact ⟨h1, goodL_iff.2 ⟨h2, h3⟩⟩
      have hfin : ∀ b : Bool, b = falls pos x.bk → (b = true → (0 < k → (l.getD (k - 1) lk0).st < x.st) → x.bk.length ≤ 4 → falls pos x.bk = true) := fun b hb h _ _ => by rw [← hb]; exact h
      by_cases h0 : 0 < k
      · have q2 : decide ((0 : Int) < (k : Int)) = true := by simp; omega
        have ep := i64_pred k h0 (by omega)
        have g2 := lks_get l (k - 1) (by omega)
        by_cases hs : (l.getD (k - 1) lk0).st < x.st
        · have q3 : decide (x.st ≤ (l.getD (k - 1) lk0).st) = false := decide_eq_false (by omega)
          by_cases h4 : x.bk.length ≤ 4
          · have q4 : decide (4 < (x.bk.length : Int)) = false := by simp; omega
            (simp only [go_sem, Nat.reduceAdd, Nat.reduceMul, Int.reduceToNat, Nat.reduceLeDiff, Int.reduceLE, Int.reduceLT, ↓reduceIte, Int.reduceBEq, Int.reduceBNe, Int.reduceAdd, Int.reduceSub, Int.reduceMul, q1, q2, g, g2, ep, q3, q4, lks_length, ints_length, Int.toNat_natCast]; try refine okTr_and rfl ?_)
            (repeat ((with_reducible refine And.intro ?_ ?_); (· exact sd)))
            refine CallK.p (ref22_Falls pos x.bk (by omega)) ?_
            by_cases hf : falls pos x.bk = true
            · (simp only [go_sem, Nat.reduceAdd, Nat.reduceMul, Int.reduceToNat, Nat.reduceLeDiff, Int.reduceLE, Int.reduceLT, ↓reduceIte, Int.reduceBEq, Int.reduceBNe, Int.reduceAdd, Int.reduceSub, Int.reduceMul, hf, ek]; try refine okTr_and rfl ?_)
              (repeat ((with_reducible refine And.intro ?_ ?_); (· exact sd)))
              exact ⟨k + 1, ⟨hlt, good (fun _ => hs) h4 hf⟩, by omega, Wk.to (by simp) (by simp [leT])⟩
            · have e := bad (.inr (.inr hf))
              have hf' : falls pos x.bk = false := by simpa using hf
              (simp only [go_sem, Nat.reduceAdd, Nat.reduceMul, Int.reduceToNat, Nat.reduceLeDiff, Int.reduceLE, Int.reduceLT, ↓reduceIte, Int.reduceBEq, Int.reduceBNe, Int.reduceAdd, Int.reduceSub, Int.reduceMul, hf']; try refine okTr_and rfl ?_)
              (repeat ((with_reducible refine And.intro ?_ ?_); (· exact sd)))
              ((refine FinK.finB r13 [] ?_ ?_); (· first | with_reducible rfl | (simp [e]; done) | rfl); (· simp [resAL, resA1, loadA, oneOr, e]))
          · have q4 : decide (4 < (x.bk.length : Int)) = true := by simp; omega
            have e := bad (.inr (.inl h4))
            (simp only [go_sem, Nat.reduceAdd, Nat.reduceMul, Int.reduceToNat, Nat.reduceLeDiff, Int.reduceLE, Int.reduceLT, ↓reduceIte, Int.reduceBEq, Int.reduceBNe, Int.reduceAdd, Int.reduceSub, Int.reduceMul, q1, q2, g, g2, ep, q3, q4, lks_length, ints_length, Int.toNat_natCast]; try refine okTr_and rfl ?_)
            (repeat ((with_reducible refine And.intro ?_ ?_); (· exact sd)))
            ((refine FinK.finB r13 [] ?_ ?_); (· first | with_reducible rfl | (simp [e]; done) | rfl); (· simp [resAL, resA1, loadA, oneOr, e]))
        · have q3 : decide (x.st ≤ (l.getD (k - 1) lk0).st) = true := decide_eq_true (by omega)
          have e := bad (.inl ⟨h0, hs⟩)
          (simp only [go_sem, Nat.reduceAdd, Nat.reduceMul, Int.reduceToNat, Nat.reduceLeDiff, Int.reduceLE, Int.reduceLT, ↓reduceIte, Int.reduceBEq, Int.reduceBNe, Int.reduceAdd, Int.reduceSub, Int.reduceMul, q1, q2, g, g2, ep, q3, lks_length, ints_length, Int.toNat_natCast]; try refine okTr_and rfl ?_)
          (repeat ((with_reducible refine And.intro ?_ ?_); (· exact sd)))
          ((refine FinK.finB r13 [] ?_ ?_); (· first | with_reducible rfl | (simp [e]; done) | rfl); (· simp [resAL, resA1, loadA, oneOr, e]))
      · have q2 : decide ((0 : Int) < (k : Int)) = false := by simp; omega
        by_cases h4 : x.bk.length ≤ 4
        · have q4 : decide (4 < (x.bk.length : Int)) = false := by simp; omega
          (simp only [go_sem, Nat.reduceAdd, Nat.reduceMul, Int.reduceToNat, Nat.reduceLeDiff, Int.reduceLE, Int.reduceLT, ↓reduceIte, Int.reduceBEq, Int.reduceBNe, Int.reduceAdd, Int.reduceSub, Int.reduceMul, q1, q2, g, q4, lks_length, ints_length, Int.toNat_natCast]; try refine okTr_and rfl ?_)
          (repeat ((with_reducible refine And.intro ?_ ?_); (· exact sd)))
          refine CallK.p (ref22_Falls pos x.bk (by omega)) ?_
          by_cases hf : falls pos x.bk = true
          · (simp only [go_sem, Nat.reduceAdd, Nat.reduceMul, Int.reduceToNat, Nat.reduceLeDiff, Int.reduceLE, Int.reduceLT, ↓reduceIte, Int.reduceBEq, Int.reduceBNe, Int.reduceAdd, Int.reduceSub, Int.reduceMul, hf, ek]; try refine okTr_and rfl ?_)
            (repeat ((with_reducible refine And.intro ?_ ?_); (· exact sd)))
            exact ⟨k + 1, ⟨hlt, good (fun h => absurd h h0) h4 hf⟩, by omega, Wk.to (by simp) (by simp [leT])⟩
          · have e := bad (.inr (.inr hf))
            have hf' : falls pos x.bk = false := by simpa using hf
            (simp only [go_sem, Nat.reduceAdd, Nat.reduceMul, Int.reduceToNat, Nat.reduceLeDiff, Int.reduceLE, Int.reduceLT, ↓reduceIte, Int.reduceBEq, Int.reduceBNe, Int.reduceAdd, Int.reduceSub, Int.reduceMul, hf']; try refine okTr_and rfl ?_)
            (repeat ((with_reducible refine And.intro ?_ ?_); (· exact sd)))
            ((refine FinK.finB r13 [] ?_ ?_); (· first | with_reducible rfl | (simp [e]; done) | rfl); (· simp [resAL, resA1, loadA, oneOr, e]))
        · have q4 : decide (4 < (x.bk.length : Int)) = true := by simp; omega
          have e := bad (.inr (.inl h4))
          (simp only [go_sem, Nat.reduceAdd, Nat.reduceMul, Int.reduceToNat, Nat.reduceLeDiff, Int.reduceLE, Int.reduceLT, ↓reduceIte, Int.reduceBEq, Int.reduceBNe, Int.reduceAdd, Int.reduceSub, Int.reduceMul, q1, q2, g, q4, lks_length, ints_length, Int.toNat_natCast]; try refine okTr_and rfl ?_)
          (repeat ((with_reducible refine And.intro ?_ ?_); (· exact sd)))
          ((refine FinK.finB r13 [] ?_ ?_); (· first | with_reducible rfl | (simp [e]; done) | rfl); (· simp [resAL, resA1, loadA, oneOr, e]))
    · have q1 : decide ((k : Int) < (l.length : Int)) = false := by simp; omega
      have e : rightL pos l = true := rightL_iff.2 ⟨h16, risesL_iff.2 fun i hi h0 => (hall i (by omega)).1 h0, fun x hx => by
        obtain ⟨i, hi, rfl⟩ := List.getElem_of_mem hx
        have := (hall i (by omega)).2
        simpa [hi] using this⟩
      (simp only [go_sem, Nat.reduceAdd, Nat.reduceMul, Int.reduceToNat, Nat.reduceLeDiff, Int.reduceLE, Int.reduceLT, ↓reduceIte, Int.reduceBEq, Int.reduceBNe, Int.reduceAdd, Int.reduceSub, Int.reduceMul, q1]; try refine okTr_and rfl ?_)
      ((refine FinK.finB r13 [] ?_ ?_); (· first | with_reducible rfl | (simp [e]; done) | rfl); (· simp [resAL, resA1, loadA, oneOr, e]))
  · have q0 : decide (16 < (l.length : Int)) = true := by simp; omega
    have he : rightL pos l = false := by simp [rightL, h16]
    (simp only [go_sem, Nat.reduceAdd, Nat.reduceMul, Int.reduceToNat, Nat.reduceLeDiff, Int.reduceLE, Int.reduceLT, ↓reduceIte, Int.reduceBEq, Int.reduceBNe, Int.reduceAdd, Int.reduceSub, Int.reduceMul, q0]; try refine okTr_and rfl ?_)
    ((refine FinK.finB r13 [] ?_ ?_); (· first | with_reducible rfl | (simp [he]; done) | rfl); (· simp [resAL, resA1, loadA, oneOr, he]))
theorem ref23_Right (pos : Int) (l : List Lk) (hm : Smalls l) : Ct Try.prog 13 [uA pos, slL l] [] (fun _ => bA (rightL pos l)) [] (fun _ => []) := (ref23_Right0 pos l hm).toCt cl cl
def longL (l : List Lk) : Bool := (l.take 50).any (fun x => decide (50 < (x.bk.length : Int))) || decide (50 < (l.length : Int))
theorem longL_no {l : List Lk} (h : longL l = false) : l.length ≤ 50 ∧ ∀ x ∈ l, x.bk.length ≤ 50 := by
  unfold longL at h
  rw [Bool.or_eq_false_iff] at h
  have h1 : l.length ≤ 50 := by have := h.2; simp only [decide_eq_false_iff_not] at this; omega
  refine ⟨h1, fun x hx => ?_⟩
  have h2 := h.1
  rw [List.take_of_length_le h1, List.any_eq_false] at h2
  have := h2 x hx
  simp only [decide_eq_true_eq] at this
  omega
theorem longL_smalls {l : List Lk} (h : longL l = false) : Smalls l := by
  obtain ⟨a, b⟩ := longL_no h
  exact ⟨by omega, fun x hx => by have := b x hx; omega⟩
theorem law23_Long0 (l : List Lk) : Does Try.prog 12 [slL l] [] (bA (longL l)) [] := by
  refine Does.runA Try.func12 b12 n12 Try.ntmps12 ?_; simp only [c12, go_sem, Nat.reduceAdd, Nat.reduceMul, Int.reduceToNat, Nat.reduceLeDiff, Int.reduceLE, Int.reduceLT, ↓reduceIte, Int.reduceBEq, Int.reduceBNe, Int.reduceAdd, Int.reduceSub, Int.reduceMul]; try refine okTr_and rfl ?_
  refine loop_of (α := Nat) (fun k => [slL l, .any, .any, iA k, .any, .any, .any, .any, .any, .any, .any, .any, .any, .any, .any, .any, .any, .any, .any, .any, .any, .any, .any, .any]) (fun _ => []) (fun k => k ≤ l.length ∧ k ≤ 50 ∧ ∀ i, i < k → (l.getD i lk0).bk.length ≤ 50) (fun k => l.length - k) 0 ⟨by simp, by simp, by intro i hi; omega⟩ (Wk.to (by simp) (by simp [leT])) ?_
  rintro k ⟨hk, hk2, hall⟩
  have hno : k = l.length ∨ k = 50 → (l.take 50).any (fun x => decide (50 < (x.bk.length : Int))) = false := fun hor => by
    rw [List.any_eq_false]
    intro t ht
    obtain ⟨i, hi, rfl⟩ := List.getElem_of_mem ht
    simp only [List.length_take] at hi
    have := hall i (by omega)
    have e : l.getD i lk0 = l[i]'(by omega) := by simp [show i < l.length by omega]
    rw [e] at this
    simp only [List.getElem_take, decide_eq_true_eq]
    omega
  (simp only [go_sem, Nat.reduceAdd, Nat.reduceMul, Int.reduceToNat, Nat.reduceLeDiff, Int.reduceLE, Int.reduceLT, ↓reduceIte, Int.reduceBEq, Int.reduceBNe, Int.reduceAdd, Int.reduceSub, Int.reduceMul, lks_length]; try refine okTr_and rfl ?_)
  by_cases hlt : k < l.length
  · have q1 : decide ((k : Int) < l.length) = true := by simp; omega
    by_cases h50 : k < 50
    · have q2 : decide ((k : Int) < 50) = true := by simp; omega
      have g := lks_get l k hlt
      have ei := i64_succ k (by omega)
      (simp only [go_sem, Nat.reduceAdd, Nat.reduceMul, Int.reduceToNat, Nat.reduceLeDiff, Int.reduceLE, Int.reduceLT, ↓reduceIte, Int.reduceBEq, Int.reduceBNe, Int.reduceAdd, Int.reduceSub, Int.reduceMul, q1, q2, g, lks_length, ints_length, Int.toNat_natCast]; try refine okTr_and rfl ?_)
      (repeat ((with_reducible refine And.intro ?_ ?_); (· exact sd)))
      by_cases c : 50 < ((l.getD k lk0).bk.length : Int)
      · have q3 : decide (50 < ((l.getD k lk0).bk.length : Int)) = true := by simpa using c
        have he : longL l = true := by
          unfold longL
          have : (l.take 50).any (fun x => decide (50 < (x.bk.length : Int))) = true := by
            rw [List.any_eq_true]
            refine ⟨l.getD k lk0, ?_, q3⟩
            have : (l.take 50)[k]? = some (l.getD k lk0) := by simp [h50, hlt]
            exact List.mem_of_getElem? this
          rw [this]; rfl
        (simp only [go_sem, Nat.reduceAdd, Nat.reduceMul, Int.reduceToNat, Nat.reduceLeDiff, Int.reduceLE, Int.reduceLT, ↓reduceIte, Int.reduceBEq, Int.reduceBNe, Int.reduceAdd, Int.reduceSub, Int.reduceMul, q3]; try refine okTr_and rfl ?_)
        ((refine FinK.finB r12 [] ?_ ?_); (· first | with_reducible rfl | (simp [he]; done) | rfl); (· simp [resAL, resA1, loadA, oneOr, he]))
      · have q3 : decide (50 < ((l.getD k lk0).bk.length : Int)) = false := by simpa using c
        (simp only [go_sem, Nat.reduceAdd, Nat.reduceMul, Int.reduceToNat, Nat.reduceLeDiff, Int.reduceLE, Int.reduceLT, ↓reduceIte, Int.reduceBEq, Int.reduceBNe, Int.reduceAdd, Int.reduceSub, Int.reduceMul, q3, ei]; try refine okTr_and rfl ?_)
        refine ⟨k + 1, ⟨hlt, h50, fun i hi => ?_⟩, by omega, Wk.to (by simp) (by simp [leT])⟩
        rcases Nat.lt_or_ge i k with h5 | h5
        · exact hall i h5
        · obtain rfl : i = k := by omega
          omega
    · have q2 : decide ((k : Int) < 50) = false := by simp; omega
      have he : longL l = decide (50 < (l.length : Int)) := by unfold longL; rw [hno (.inr (by omega))]; rfl
      (simp only [go_sem, Nat.reduceAdd, Nat.reduceMul, Int.reduceToNat, Nat.reduceLeDiff, Int.reduceLE, Int.reduceLT, ↓reduceIte, Int.reduceBEq, Int.reduceBNe, Int.reduceAdd, Int.reduceSub, Int.reduceMul, q1, q2, lks_length]; try refine okTr_and rfl ?_)
      ((refine FinK.finB r12 [] ?_ ?_); (· first | with_reducible rfl | (simp [he]; done) | rfl); (· simp [resAL, resA1, loadA, oneOr, he]))
  · have q1 : decide ((k : Int) < l.length) = false := by simp; omega
    have he : longL l = decide (50 < (l.length : Int)) := by unfold longL; rw [hno (.inl (by omega))]; rfl
    (simp only [go_sem, Nat.reduceAdd, Nat.reduceMul, Int.reduceToNat, Nat.reduceLeDiff, Int.reduceLE, Int.reduceLT, ↓reduceIte, Int.reduceBEq, Int.reduceBNe, Int.reduceAdd, Int.reduceSub, Int.reduceMul, q1, lks_length]; try refine okTr_and rfl ?_)
    ((refine FinK.finB r12 [] ?_ ?_); (· first | with_reducible rfl | (simp [he]; done) | rfl); (· simp [resAL, resA1, loadA, oneOr, he]))
theorem law23_Long (l : List Lk) : Ct Try.prog 12 [slL l] [] (fun _ => bA (longL l)) [] (fun _ => []) := (law23_Long0 l).toCt cl cl
/-- The link of the next entry of a stream. -/
def extL (x : Lk) (pos : Int) : Lk := ⟨x.st, (pos :: x.bk).take 4⟩
theorem min4 (n : Nat) : (if (4 : Int) < ((n + 1 : Nat) : Int) then 4 else ((n + 1 : Nat) : Int)) = ((min (n + 1) 4 : Nat) : Int) := by split <;> omega
theorem link_Extend0 (x : Lk) (pos : Int) (hn : x.bk.length ≤ 1000000) : Does Try.prog 17 [lkA x, uA pos] [] (lkA (extL x pos)) [] := by
  have e1 : [uA pos] ++ ints .u64 x.bk = ints .u64 (pos :: x.bk) := rfl
  have el : (pos :: x.bk).length = x.bk.length + 1 := rfl
  have e2 := min4 x.bk.length
  have e3 : List.take (min (x.bk.length + 1) 4) (pos :: x.bk) = (pos :: x.bk).take 4 := by
    rcases Nat.le_total (x.bk.length + 1) 4 with h | h
    · rw [Nat.min_eq_left h, List.take_of_length_le (by rw [el]; omega), List.take_of_length_le (by rw [el]; omega)]
    · rw [Nat.min_eq_right h]
  refine Does.runA Try.func17 b17 n17 Try.ntmps17 ?_; simp only [c17, go_sem, Nat.reduceAdd, Nat.reduceMul, Int.reduceToNat, Nat.reduceLeDiff, Int.reduceLE, Int.reduceLT, ↓reduceIte, Int.reduceBEq, Int.reduceBNe, Int.reduceAdd, Int.reduceSub, Int.reduceMul, e1, ints_length, el, e2, Int.sub_zero, Int.toNat_natCast, ints_take, e3]; try refine okTr_and rfl ?_
  (repeat ((with_reducible refine And.intro ?_ ?_); (· exact sd)))
  ((refine FinK.finB r17 [] ?_ ?_); (· first | with_reducible rfl | (simp [extL]; done) | rfl); (· simp [resAL, resA1, loadA, oneOr, extL]))
theorem link_Extend (x : Lk) (pos : Int) (hn : x.bk.length ≤ 1000000) : Ct Try.prog 17 [lkA x, uA pos] [] (fun _ => lkA (extL x pos)) [] (fun _ => []) := (link_Extend0 x pos hn).toCt cl cl
theorem live23_w : (WS.new 9).links 10 [⟨0, [9, 3]⟩] = ⟨9, [1, 0, 2, 0, 5], 0⟩ := by kernel_rfl
theorem live23_0 : Does Try.prog 14 [] [] (bA true) [] := by
  have hx : Lk.ok ⟨0, [9, 3]⟩ := ⟨by decide, by decide, by unfold U64s; decide⟩
  have hl : Lks [⟨0, [9, 3]⟩] := fun x hx' => by simp only [List.mem_singleton] at hx'; subst hx'; exact hx
  have hm : Smalls [⟨0, [9, 3]⟩] := ⟨by decide, fun x hx' => by simp only [List.mem_singleton] at hx'; subst hx'; decide⟩
  have f0 : (WS.new 9).fine := WS.fine.new (by decide)
  have hB : Bys [1, 0, 2, 0, 5] := by unfold Bys; decide
  have e4 : ints .u8 [1, 0, 2, 0, 5] = [u8A 1, u8A 0, u8A 2, u8A 0, u8A 5] := rfl
  have e5 : extL ⟨0, [9, 3]⟩ 10 = ⟨0, [10, 9, 3]⟩ := rfl
  have e6 : ints .u64 [10, 9, 3] = [uA 10, uA 9, uA 3] := rfl
  have wl : (WS.mk 9 [1, 0, 2, 0, 5] 0).bytes = [1, 0, 2, 0, 5] := rfl
  refine Does.runA Try.func14 b14 n14 Try.ntmps14 ?_; simp only [c14, go_sem, Nat.reduceAdd, Nat.reduceMul, Int.reduceToNat, Nat.reduceLeDiff, Int.reduceLE, Int.reduceLT, ↓reduceIte, Int.reduceBEq, Int.reduceBNe, Int.reduceAdd, Int.reduceSub, Int.reduceMul]; try refine okTr_and rfl ?_
  (repeat ((with_reducible refine And.intro ?_ ?_); (· exact sd)))
  refine CallK.n (pen_New 9) ?_; (simp only [go_sem, Nat.reduceAdd, Nat.reduceMul, Int.reduceToNat, Nat.reduceLeDiff, Int.reduceLE, Int.reduceLT, ↓reduceIte, Int.reduceBEq, Int.reduceBNe, Int.reduceAdd, Int.reduceSub, Int.reduceMul]; try refine okTr_and rfl ?_)
  (repeat ((with_reducible refine And.intro ?_ ?_); (· exact sd)))
  refine CallK.u2 ((link_Put (WS.new 9) 10 [⟨0, [9, 3]⟩] 1 2 (by decide) f0 hl hm (by decide) (by decide)).deep (by simp [untag, untag1, untD, lks, ints])) rfl rfl ?_
  (simp only [go_sem, Nat.reduceAdd, Nat.reduceMul, Int.reduceToNat, Nat.reduceLeDiff, Int.reduceLE, Int.reduceLT, ↓reduceIte, Int.reduceBEq, Int.reduceBNe, Int.reduceAdd, Int.reduceSub, Int.reduceMul, live23_w]; try refine okTr_and rfl ?_)
  refine CallK.r2 (Writer_Bytes (WS.mk 9 [1, 0, 2, 0, 5] 0) _ _ (by decide) (by decide)) rfl rfl ?_; (simp only [go_sem, Nat.reduceAdd, Nat.reduceMul, Int.reduceToNat, Nat.reduceLeDiff, Int.reduceLE, Int.reduceLT, ↓reduceIte, Int.reduceBEq, Int.reduceBNe, Int.reduceAdd, Int.reduceSub, Int.reduceMul, wl]; try refine okTr_and rfl ?_)
  (repeat ((with_reducible refine And.intro ?_ ?_); (· exact sd)))
  refine CallK.p (ref02_Same [1, 0, 2, 0, 5] [1, 0, 2, 0, 5] hB hB) ?_; (simp only [go_sem, Nat.reduceAdd, Nat.reduceMul, Int.reduceToNat, Nat.reduceLeDiff, Int.reduceLE, Int.reduceLT, ↓reduceIte, Int.reduceBEq, Int.reduceBNe, Int.reduceAdd, Int.reduceSub, Int.reduceMul, same_self]; try refine okTr_and rfl ?_)
  refine CallK.p (link_Extend ⟨0, [9, 3]⟩ 10 (by decide)) ?_; (simp only [go_sem, Nat.reduceAdd, Nat.reduceMul, Int.reduceToNat, Nat.reduceLeDiff, Int.reduceLE, Int.reduceLT, ↓reduceIte, Int.reduceBEq, Int.reduceBNe, Int.reduceAdd, Int.reduceSub, Int.reduceMul, e5]; try refine okTr_and rfl ?_)
  (repeat ((with_reducible refine And.intro ?_ ?_); (· exact sd)))
  refine CallK.p (ref05_Same [10, 9, 3] [10, 9, 3] (by decide)) ?_; (simp only [go_sem, Nat.reduceAdd, Nat.reduceMul, Int.reduceToNat, Nat.reduceLeDiff, Int.reduceLE, Int.reduceLT, ↓reduceIte, Int.reduceBEq, Int.reduceBNe, Int.reduceAdd, Int.reduceSub, Int.reduceMul, same_self]; try refine okTr_and rfl ?_)
  exact FinK.finA r14 []
theorem live23 : Ct Try.prog 14 [] [] (fun _ => bA true) [] (fun _ => []) := (live23_0).toCt cl cl
end Go.Proofs.Ytnfagphepkeedaa
end
section
namespace Go.Proofs.Ytnfagphepkeedaa
open Go.RowKit

/-- What a call lays into a row that may turn, told as a slice that lies still. -/
theorem Does.freeze {P : Program} {f : FuncId} {args : List AV} {k n : Nat} (zs : List AV) (h : Does P f args [] (.ms 0 n) [.mrow k n (flat zs)]) (hl : zs.length = n) (hk : ∀ z ∈ zs, z.cells.length = k) (hr : ∀ ρ, zs.map (fun x => x.ren ρ) = zs) : Does P f args [] (.sl .none k zs) [] := by
  have h1 : Does P f args [] (.sl .none k zs) [.row k n] := by
    refine ⟨h.1, fun G w vs hw hra => (h.2 G w vs hw hra).mono ?_⟩
    rintro e w' ⟨v, G', rfl, hv, hs⟩
    cases hv with
    | @ms _ _ A c hh hA =>
      obtain ⟨G'', hl', hh', us, v1, v2, v3, v4, v5⟩ := Left.freeze (j := 0) hs.wd rfl hh
      refine ⟨_, G'', rfl, ?_, by simpa using hs.trans hl'⟩
      subst hl
      by_cases h0 : 0 < zs.length
      · obtain ⟨b, rfl, v6⟩ := v5 h0
        exact rep_of_cells v1 v2 v3 (fun i x hx => hk x (List.mem_of_getElem? hx)) v6 (fun i j x y u h1 h2 h3 => v4 _ y u (flat_at zs hk i j x y h1 h2) h3) trivial
      · have hzn : zs = [] := List.eq_nil_of_length_eq_zero (by omega)
        subst hzn
        exact Rep.sl (b := 0) (o := 0) (fun _ _ => undef) v2 (fun h => by simp at h) (fun i x h => by simp at h) (fun i j h => by simp at h) (fun i j h => by simp at h) (fun i j x y h => by simp at h) trivial
  exact h1.clean (S' := []) [] (by simp) rfl (by simp) (fun k i hk => by simp at hk) (fun k o h => by simp at h) (by rw [ren_sl, hr]; rfl)

theorem flat_app (xs ys : List AV) : flat (xs ++ ys) = flat xs ++ flat ys := by simp [flat]
theorem flat_len {k : Nat} {ys : List AV} (hk : ∀ x ∈ ys, x.cells.length = k) : (flat ys).length = ys.length * k := (flat_get ys fun i x h => hk x (List.mem_of_getElem? h)).1
theorem flat_part {k : Nat} {ys : List AV} (hk : ∀ x ∈ ys, x.cells.length = k) {i : Nat} (h : i < ys.length) : ((flat ys).drop (i * k)).take k = (ys.getD i .any).cells := by
  have e : ys = ys.take i ++ ys[i] :: ys.drop (i + 1) := by simp
  have hl : (flat (ys.take i)).length = i * k := by rw [flat_len (fun x hx => hk x (List.mem_of_mem_take hx)), List.length_take, Nat.min_eq_left (by omega)]
  have hi : (ys[i]).cells.length = k := hk _ (by simp)
  have hg : ys.getD i .any = ys[i] := by simp [h]
  rw [hg]
  conv => lhs; rw [e]
  rw [flat_app, flat_cons, ← hl, List.drop_left, ← hi, List.take_left]
theorem splice_app (a b c cs : List AV) (h : cs.length = b.length) : splice (a ++ b ++ c) a.length cs = a ++ cs ++ c := by
  apply List.ext_getElem?
  intro j
  rw [splice_get _ _ _ (by simp; omega)]
  by_cases h1 : a.length ≤ j ∧ j < a.length + cs.length
  · rw [if_pos h1, List.append_assoc, List.getElem?_append_right h1.1, List.getElem?_append_left (by omega)]
  · rw [if_neg h1]
    by_cases h2 : j < a.length
    · rw [List.append_assoc, List.append_assoc, List.getElem?_append_left h2, List.getElem?_append_left h2]
    · rw [List.getElem?_append_right (by simp; omega), List.getElem?_append_right (by simp; omega)]
      simp [h]
theorem flat_splice {k : Nat} {ys : List AV} (hk : ∀ x ∈ ys, x.cells.length = k) {i : Nat} (h : i < ys.length) (z : AV) (hz : z.cells.length = k) : splice (flat ys) (i * k) z.cells = flat (ys.set i z) := by
  have e : ys = ys.take i ++ ys[i] :: ys.drop (i + 1) := by simp
  have hl : (flat (ys.take i)).length = i * k := by rw [flat_len (fun x hx => hk x (List.mem_of_mem_take hx)), List.length_take, Nat.min_eq_left (by omega)]
  have hi : (ys[i]).cells.length = k := hk _ (by simp)
  have e2 : ys.set i z = ys.take i ++ z :: ys.drop (i + 1) := List.set_eq_take_append_cons_drop.trans (if_pos h)
  rw [e2]
  conv => lhs; rw [e]
  rw [flat_app, flat_cons, flat_app, flat_cons, ← List.append_assoc, ← List.append_assoc, ← hl]
  exact splice_app _ _ _ _ (by rw [hi, hz])

/-- The cells of links. -/
abbrev lkC (l : List Lk) : List AV := flat (lks l)
theorem lks_k (l : List Lk) : ∀ x ∈ lks l, x.cells.length = 2 := fun x hx => by
  simp only [lks, List.mem_map] at hx
  obtain ⟨y, _, rfl⟩ := hx
  rfl
theorem lkC_part (l : List Lk) (k : Nat) (h : k < l.length) : ((lkC l).drop (k * 2)).take 2 = [uA (l.getD k lk0).st, slU (l.getD k lk0).bk] := by
  rw [flat_part (lks_k l) (by rw [lks_length]; exact h), lks_get l k h]; rfl
theorem lkC_len (l : List Lk) : (lkC l).length = l.length * 2 := by rw [flat_len (lks_k l), lks_length]
theorem lkC_snoc (l : List Lk) (x : Lk) : lkC l ++ [uA x.st, slU x.bk] = lkC (l ++ [x]) := by
  have e : lks (l ++ [x]) = lks l ++ [lkA x] := by simp [lks]
  rw [lkC, lkC, e, flat_app]; rfl
theorem lkC_set (l : List Lk) (x : Lk) (k : Nat) (h : k < l.length) : splice (lkC l) (k * 2) [uA x.st, slU x.bk] = lkC (l.set k x) := by
  have := flat_splice (lks_k l) (i := k) (by rw [lks_length]; exact h) (lkA x) rfl
  have e : (lks l).set k (lkA x) = lks (l.set k x) := by simp [lks, List.map_set]
  rw [e] at this; exact this
theorem lkC_ren (ρ : Nat → Nat) (l : List Lk) : (lkC l).map (fun x => x.ren ρ) = lkC l := by
  induction l with
  | nil => rfl
  | cons x l ih =>
    have e : lkC (x :: l) = uA x.st :: slU x.bk :: lkC l := rfl
    rw [e, List.map_cons, List.map_cons, ih]; simp [ixs_z]
abbrev lkO (l : List Lk) : AObj := .mrow 2 l.length (lkC l)
theorem lkO_ren (ρ : Nat → Nat) (l : List Lk) : (lkO l).ren ρ = lkO l := by rw [oren_mrow, lkC_ren]

theorem link_cpd0 (x : Lk) (hn : x.bk.length ≤ 1000000) : Does Try.prog 40 [lkA x] [] (lkA x) [] := by
  refine Does.runA Try.func40 b40 n40 Try.ntmps40 ?_; simp only [c40, go_sem, Nat.reduceAdd, Nat.reduceMul, Int.reduceToNat, Nat.reduceLeDiff, Int.reduceLE, Int.reduceLT, ↓reduceIte, Int.reduceBEq, Int.reduceBNe, Int.reduceAdd, Int.reduceSub, Int.reduceMul, ints_length]; try refine okTr_and rfl ?_
  (repeat ((with_reducible refine And.intro ?_ ?_); (· exact sd)))
  (refine FinK.unobj 1 rfl ?_; simp only [List.set_cons_zero, List.set_cons_succ, List.map_cons, List.map_nil, untag1_lit, untag1_sl])
  exact FinK.finA r40 []
theorem link_cpd (x : Lk) (hn : x.bk.length ≤ 1000000) : Ct Try.prog 40 [lkA x] [] (fun _ => lkA x) [] (fun _ => []) := (link_cpd0 x hn).toCt cl cl
set_option maxRecDepth 100000 in
theorem link_CopyM0 (l : List Lk) (hm : Smalls l) : Does Try.prog 25 [slL l] [] (.ms 0 l.length) [lkO l] := by
  obtain ⟨hn, hb⟩ := hm
  refine Does.runA Try.func25 b25 n25 Try.ntmps25 ?_; simp only [c25, go_sem, Nat.reduceAdd, Nat.reduceMul, Int.reduceToNat, Nat.reduceLeDiff, Int.reduceLE, Int.reduceLT, ↓reduceIte, Int.reduceBEq, Int.reduceBNe, Int.reduceAdd, Int.reduceSub, Int.reduceMul, lks_length]; try refine okTr_and rfl ?_
  refine loop_of (α := Nat) (fun k => [slL l, .any, .any, .ms 0 k, .any, .any, slL l, iA l.length, iA k, .any, .any, .any, .any, .any, .any, .any, .any, .any, .any]) (fun k => [lkO (l.take k)]) (fun k => k ≤ l.length) (fun k => l.length - k) 0 (by simp) ((Wk.mrow 3 2 rfl (by decide)).trans (Wk.to (by simp [lkO, lkC, lks, flat]) (by simp [leT]))) ?_
  intro k hk
  (simp only [go_sem, Nat.reduceAdd, Nat.reduceMul, Int.reduceToNat, Nat.reduceLeDiff, Int.reduceLE, Int.reduceLT, ↓reduceIte, Int.reduceBEq, Int.reduceBNe, Int.reduceAdd, Int.reduceSub, Int.reduceMul]; try refine okTr_and rfl ?_)
  by_cases hlt : k < l.length
  · have q1 : decide ((k : Int) < (l.length : Int)) = true := by simp; omega
    have ek := i64_succ k (by omega)
    have g := lks_get l k hlt
    have hbk := hb _ (lk_mem l k hlt)
    have hl : (l.take k).length = k := by simp; omega
    have hs := lkC_snoc (l.take k) (l.getD k lk0)
    rw [← lk_take l k hlt] at hs
    have hl1 : (l.take (k + 1)).length = k + 1 := by simp; omega
    (simp only [go_sem, Nat.reduceAdd, Nat.reduceMul, Int.reduceToNat, Nat.reduceLeDiff, Int.reduceLE, Int.reduceLT, ↓reduceIte, Int.reduceBEq, Int.reduceBNe, Int.reduceAdd, Int.reduceSub, Int.reduceMul, q1, g, lks_length, Int.toNat_natCast]; try refine okTr_and rfl ?_)
    (repeat ((with_reducible refine And.intro ?_ ?_); (· exact sd)))
    refine CallK.p (link_cpd (l.getD k lk0) hbk) ?_; (simp only [go_sem, Nat.reduceAdd, Nat.reduceMul, Int.reduceToNat, Nat.reduceLeDiff, Int.reduceLE, Int.reduceLT, ↓reduceIte, Int.reduceBEq, Int.reduceBNe, Int.reduceAdd, Int.reduceSub, Int.reduceMul, hl]; try refine okTr_and rfl ?_)
    (repeat ((with_reducible refine And.intro ?_ ?_); (· exact sd)))
    (simp only [go_sem, Nat.reduceAdd, Nat.reduceMul, Int.reduceToNat, Nat.reduceLeDiff, Int.reduceLE, Int.reduceLT, ↓reduceIte, Int.reduceBEq, Int.reduceBNe, Int.reduceAdd, Int.reduceSub, Int.reduceMul, ek, hs]; try refine okTr_and rfl ?_)
    exact ⟨k + 1, by omega, by omega, Wk.sel [0] (by simp) rfl (by simp) rfl (by simp only [List.map_cons, List.map_nil, List.getElem?_cons_zero, oren_mrow, lkC_ren, hl1]) (by simp [selT, ixs_z])⟩
  · have q1 : decide ((k : Int) < (l.length : Int)) = false := by simp; omega
    have ek : k = l.length := by omega
    have el : l.take l.length = l := List.take_length
    subst ek
    (simp only [go_sem, Nat.reduceAdd, Nat.reduceMul, Int.reduceToNat, Nat.reduceLeDiff, Int.reduceLE, Int.reduceLT, ↓reduceIte, Int.reduceBEq, Int.reduceBNe, Int.reduceAdd, Int.reduceSub, Int.reduceMul, q1]; try refine okTr_and rfl ?_)
    ((refine FinK.finB r25 [0] ?_ ?_); (· first | with_reducible rfl | (simp [el, lkC_ren]; done) | rfl); (· simp [resAL, resA1, loadA, oneOr, el, lkC_ren]))
end Go.Proofs.Ytnfagphepkeedaa
end
section
namespace Go.Proofs.Ytnfagphepkeedaa
open Go.RowKit

theorem Try.own : ownKnob Try.prog.godebug = none := by kernel_rfl
theorem Try.laidOut : laidOutB Try.prog = true := by kernel_rfl

end Go.Proofs.Ytnfagphepkeedaa
end
section
namespace Go.Proofs.Ytnfagphepkeedaa
open Go.RowKit Go.Lib

theorem run_copy_at {P : Program} (w : World) {dT sT ty e : TypeId} {i : TypeInfo} (ht : P.underlying dT = some (.slice e)) (hi : P.info? e = some i) (b o dLen dCap : Nat) (cur : Array Value) (t0 : TypeId) (hg : w.heap[b]? = some (.cells cur t0 (0, 0)))
    (a : Addr) (sLen sCap : Nat) (cs : List Value) (hn : cs.length = Nat.min sLen dLen * i.size) (hsrc : ∀ j v, cs[j]? = some v → w.cell? (a.add j) = some v) (hfit : o + cs.length ≤ cur.size) (h1 : ∀ v ∈ cs, v.oneCell' = true) :
    (Builtin.copy_ #[dT, sT] ty #[.slice (some ⟨b, o, none⟩) dLen dCap, .slice (some a) sLen sCap]).run P w = .ok (goInt (Nat.min sLen dLen)) (w.setRow b (cur.toList.take o ++ cs ++ cur.toList.drop (o + cs.length)).toArray) := by
  have hl := run_loadCells_list (P := P) w a cs hsrc
  have hst := run_storeCells_at P b o t0 cs 0 cur w hg (by simpa using hfit) h1
  simp only [Nat.add_zero] at hst
  simp [Builtin.copy_, run_underlying ht, Builtin.lenOf, Builtin.firstCells, sizeOf, typeInfo, hi, ← hn, hl, hst]

set_option maxHeartbeats 2000000 in
theorem insert_end (A : Option Addr) (n c vb voff vc : Nat) (w : World) (hnc : n ≤ c) (hA : A = none → c = 0) {v' : Value} {w' : World}
    (hrun : ∀ ty, (Builtin.append_ #[22, 22] ty #[.slice A n c, .slice (some ⟨vb, voff, none⟩) 1 vc]).run Try.prog w = .ok v' w') :
    Calls Try.prog 42 #[.slice A n c, .int .i64 n, .slice (some ⟨vb, voff, none⟩) 1 vc] w fun e w'' => e = .returned v' ∧ w'' = w' := by
  go_enter Try.func42, Try.ntmps42
  cases A with
  | none =>
    obtain rfl := hA rfl
    obtain rfl : n = 0 := by omega
    go_wp2_with (at_builtin; refine Lib.wpList_append_run _ rfl _ _ _ _ rfl _ _ rfl rfl _ _ (hrun _) ?_)
    go_ret
    exact ⟨rfl, rfl⟩
  | some a =>
    obtain ⟨ab, ao, asp⟩ := a
    go_wp2_with (at_builtin; refine Lib.wpList_append_run _ rfl _ _ _ _ rfl _ _ rfl rfl _ _ (hrun _) ?_)
    all_goals (go_ret; exact ⟨rfl, rfl⟩)
/-- A part of the model whose first step has run: what is left. -/
theorem ran_on {P : Program} {α β : Type} {x : Sem α} {f : α → Sem β} {w w' : World} {a : α} (h : x.run P w = .ok a w') : (x >>= f).run P w = (f a).run P w' := by rw [Sem.run_bind, h]; rfl
/-- Two slices in two blocks, of which the second is plain memory: they do not overlap. -/
theorem run_overlaps_un {P : Program} (w : World) (tS tR e : TypeId) {i : TypeInfo} (ht : P.underlying tS = some (.slice e)) (hi : P.info? e = some i) (a b : Addr) (la ca lb cb : Nat) (hne : a.block ≠ b.block) {u : Value} (ha : w.cell? a = some u) {cs : Array Value} {tB : TypeId} (hb : w.heap[b.block]? = some (.cells cs tB (0, 0))) :
    (Extern.SlicesOverlaps.overlaps #[tS, tS] #[tR] #[.slice (some a) la ca, .slice (some b) lb cb]).run P w = .ok (.bool false) w := by
  have hnb : (a.block != b.block) = true := by simpa using hne
  have hnb' : (a.block == b.block) = false := by simpa using hne
  obtain ⟨tA, kA, hsa, hk, _⟩ := World.shape?_of_cell? ha
  have hsb : w.shape? b.block = some (tB, cs.size) := by simp [World.shape?, hb]
  have hfb : ∀ o, w.frozen? { block := b.block, off := o } = false := fun o => by simp [World.frozen?, hb]
  have hfb' : w.frozen? b = false := by simp [World.frozen?, hb]
  have hz : (sizeOf e).run P w = .ok i.size w := by simp [sizeOf, typeInfo, hi]
  refine (ran_on (run_underlying ht w)).trans ?_
  by_cases h0 : la = 0 ∨ lb = 0 ∨ i.size = 0
  · simp [run_underlying ht, hz, h0]
  · cases kA with
    | zero => omega
    | succ kA =>
      cases hfa : w.frozen? a <;> cases hfe : w.frozen? { block := a.block, off := kA + 1 } <;>
        simp [run_underlying ht, hz, h0, hnb, hnb', frozen, noView, viewAt, mayBeOne, stringish, shape, Sem.run, hsa, hsb, hfa, hfe, hfb, hfb']

set_option maxHeartbeats 4000000 in
set_option maxRecDepth 100000 in
theorem insert_shift (b n c i vb voff vc : Nat) (cur : Array Value) (t0 : TypeId) (us : List Value) (w : World) (hi : i < n) (hroom : n + 1 ≤ c) (hc63 : c ≤ 9223372036854775807) (hvb : vb ≠ b) (hg : w.heap[b]? = some (.cells cur t0 (0, 0))) (hcs : cur.size = c * 2)
    (hul : us.length = 2) (hus : ∀ j v, us[j]? = some v → w.cell? ⟨vb, voff + j, none⟩ = some v) (h1v : ∀ v ∈ us, v.oneCell' = true) (h1c : ∀ j v, j < n * 2 → cur[j]? = some v → v.oneCell' = true)
    (X Y : Array Value) (hX : X = (cur.toList.take ((i + 1) * 2) ++ (cur.toList.drop (i * 2)).take ((n - i) * 2) ++ cur.toList.drop ((i + 1) * 2 + (n - i) * 2)).toArray) (hY : Y = (X.toList.take (i * 2) ++ us ++ X.toList.drop (i * 2 + 2)).toArray) :
    Calls Try.prog 42 #[.slice (some ⟨b, 0, none⟩) n c, .int .i64 i, .slice (some ⟨vb, voff, none⟩) 1 vc] w fun e w' => e = .returned (.slice (some ⟨b, 0, none⟩) (n + 1) c) ∧ w' = (w.drew.setRow b X).setRow b Y := by
  have ht := Try.underlying22
  obtain ⟨ii, hii, hisz⟩ : ∃ ii, (Try.prog).info? 32 = some ii ∧ ii.size = 2 := ⟨_, rfl, rfl⟩
  have mixed : (Try.prog).follows .mixedOrders = true := by kernel_rfl
  have hz2 : ¬ ((i : Int) = (n : Int)) := by omega
  have hz3 : ¬ ((n : Int) + 1 > (c : Int)) := by omega
  have hov : ∀ lb cb, (callFunc 55 #[.slice (some ⟨vb, voff, none⟩) 1 vc, .slice (some ⟨b, (i + 1) * 2, none⟩) lb cb]).run Try.prog w = .ok (.value (.bool false)) w := fun lb cb => by
    rw [run_callFunc_extern Try.func55 (by kernel_rfl) (by kernel_rfl) (by kernel_rfl) (e := Extern.SlicesOverlaps.overlaps #[22, 22] #[4]) (by kernel_rfl),
      run_overlaps_un w _ _ _ ht hii ⟨vb, voff, none⟩ ⟨b, (i + 1) * 2, none⟩ _ _ _ _ hvb (u := us[0]'(by omega)) (by have := hus 0 (us[0]'(by omega)) (by simp); simpa using this) hg]
    rfl
  have hXs : X.size = c * 2 := by rw [hX]; simp; omega
  have hcp1 : ∀ ty dc sc, (Builtin.copy_ #[22, 22] ty #[.slice (some ⟨b, (i + 1) * 2, none⟩) (n - i) dc, .slice (some ⟨b, i * 2, none⟩) (n + 1 - i) sc]).run Try.prog w.drew = .ok (goInt (Nat.min (n + 1 - i) (n - i))) (w.drew.setRow b X) := fun ty dc sc => by
    have hl : ((cur.toList.drop (i * 2)).take ((n - i) * 2)).length = (n - i) * 2 := by simp; omega
    have hmn : Nat.min (n + 1 - i) (n - i) = n - i := by simp only [Nat.min_def]; split <;> omega
    have := run_copy_at (P := Try.prog) w.drew (sT := 22) (ty := ty) ht hii b ((i + 1) * 2) (n - i) dc cur t0 hg ⟨b, i * 2, none⟩ (n + 1 - i) sc ((cur.toList.drop (i * 2)).take ((n - i) * 2)) (by rw [hl, hmn, hisz]) (fun j v hj => by
      have hjl := (List.getElem?_eq_some_iff.1 hj).1
      rw [List.getElem?_take, if_pos (by omega), List.getElem?_drop] at hj
      rw [add_none, cell_at (w := w.drew) hg]; simpa using hj) (by rw [hl]; omega) (fun v hv => by
      obtain ⟨j, hj, rfl⟩ := List.getElem_of_mem hv
      have hj' : ((cur.toList.drop (i * 2)).take ((n - i) * 2))[j]? = some (((cur.toList.drop (i * 2)).take ((n - i) * 2))[j]) := List.getElem?_eq_getElem hj
      rw [hl] at hj
      rw [List.getElem?_take, if_pos (by omega), List.getElem?_drop] at hj'
      exact h1c (i * 2 + j) _ (by omega) (by simpa using hj'))
    rw [hl, ← hX] at this
    exact this
  have hgX : (w.drew.setRow b X).heap[b]? = some (.cells X t0 (0, 0)) := setRow_heap w.drew b cur X t0 _ hg
  have hcp2 : ∀ (W : World), W.heap = (w.drew.setRow b X).heap → ∀ ty dc, (Builtin.copy_ #[22, 22] ty #[.slice (some ⟨b, i * 2, none⟩) (n + 1 - i) dc, .slice (some ⟨vb, voff, none⟩) 1 vc]).run Try.prog W = .ok (goInt (Nat.min 1 (n + 1 - i))) (W.setRow b Y) := fun W hW ty dc => by
    have hmn : Nat.min 1 (n + 1 - i) = 1 := by simp only [Nat.min_def]; split <;> omega
    have := run_copy_at (P := Try.prog) W (sT := 22) (ty := ty) ht hii b (i * 2) (n + 1 - i) dc X t0 (by rw [hW]; exact hgX) ⟨vb, voff, none⟩ 1 vc us (by rw [hul, hmn, hisz]) (fun j v hj => by
      rw [add_none]
      have h1 := hus j v hj
      have h2 : (w.drew.setRow b X).heap[vb]? = w.heap[vb]? := setRow_other w.drew b vb X hvb
      exact (World.cell?_of_block (w := w) (by show W.heap[vb]? = _; rw [hW]; exact h2)).trans h1) (by rw [hul]; omega) h1v
    rw [hul, ← hY] at this
    exact this
  have hw1 : IntKind.i64.wrap ((i : Int) + 1) = (i : Int) + 1 := by rw [IntKind.wrap_i64]; omega
  have hw2 : IntKind.i64.wrap ((n : Int) + 1) = (n : Int) + 1 := by rw [IntKind.wrap_i64]; omega
  have hb1 : (0 : Int) ≤ (i : Int) + 1 := by omega
  have hin : i ≤ n := by omega
  have htn : ((i : Int) + 1).toNat = i + 1 := by omega
  have htn2 : ((n : Int) + 1).toNat = n + 1 := by omega
  have hb2 : ¬ (c = i + 1) := by omega
  have hb3 : (i : Int) ≤ (n : Int) + 1 := by omega
  have hb4 : ¬ (c = i) := by omega
  clear hX hY hXs hgX h1c h1v
  go_enter Try.func42, Try.ntmps42
  go_wp2_with (simp only [hov])
  go_region_law_o (refine step_copy_runI rfl _ _ 22 22 rfl _ _ (by simp [Act.eval, Act.put]) (by simp [Act.eval, Act.put]) (hcp1 _ _ _) ?_)
  go_wp2_with (at_builtin; refine wpList_copy_runI _ rfl _ _ 22 22 rfl _ _ rfl rfl (hcp2 _ rfl _ _) ?_)
  go_ret
  exact ⟨rfl, rfl⟩

set_option maxHeartbeats 4000000 in
set_option maxRecDepth 100000 in
theorem insert_grow (b n c i vb voff vc : Nat) (cur : Array Value) (t0 : TypeId) (us : List Value) (w : World) (hi : i < n) (hnc : n ≤ c) (hroom : c < n + 1) (hbd : (n + 1) * 32 ≤ 140737488355328) (hg : w.heap[b]? = some (.cells cur t0 (0, 0))) (hcs : cur.size = c * 2)
    (hul : us.length = 2) (hus : ∀ j v, us[j]? = some v → w.cell? ⟨vb, voff + j, none⟩ = some v) (h1v : ∀ v ∈ us, v.oneCell' = true) (h1c : ∀ j v, j < n * 2 → cur[j]? = some v → v.oneCell' = true) :
    ∃ (cap : Nat) (ROW X Y : Array Value), n + 1 ≤ cap ∧ cap ≤ 9223372036854775807 ∧ ROW.size = cap * 2 ∧ ROW.toList.take (i * 2) = cur.toList.take (i * 2) ∧ X = (ROW.toList.take (i * 2) ++ us ++ ROW.toList.drop (i * 2 + 2)).toArray ∧
      Y = (X.toList.take ((i + 1) * 2) ++ (cur.toList.drop (i * 2)).take ((n - i) * 2) ++ X.toList.drop ((i + 1) * 2 + (n - i) * 2)).toArray ∧
      Calls Try.prog 42 #[.slice (some ⟨b, 0, none⟩) n c, .int .i64 i, .slice (some ⟨vb, voff, none⟩) 1 vc] w fun e w' => e = .returned (.slice (some ⟨w.heap.size, 0, none⟩) (n + 1) cap) ∧
        w'.os = w.os ∧ w'.tape = w.tape ∧ w'.output = w.output ∧ w'.heap = (((w.alloc (.cells ROW 32)).setRow w.heap.size X).setRow w.heap.size Y).heap := by
  have ht := Try.underlying22
  obtain ⟨ii, z, hii, hisz, hib, hiz, hzs⟩ : ∃ ii z, (Try.prog).info? 32 = some ii ∧ ii.size = 2 ∧ ii.bytes = 32 ∧ ii.zero = some z ∧ z.cells.size = 2 := ⟨_, _, rfl, rfl, rfl, rfl, rfl⟩
  have mixed : (Try.prog).follows .mixedOrders = true := by kernel_rfl
  have hz2 : ¬ ((i : Int) = (n : Int)) := by omega
  have hz3 : (c : Int) < (n : Int) + 1 := by omega
  have hbw : b < w.heap.size := (Array.getElem?_eq_some_iff.1 hg).1
  have hvw : vb < w.heap.size := World.block_lt_of_cell? w _ (hus 0 (us[0]'(by omega)) (by simp))
  have hkk : (n : Int) + 1 - (i : Int) = ((n + 1 - i : Nat) : Int) := by omega
  have hik : i + (n + 1 - i) = n + 1 := by omega
  have hi2 : i * 2 ≤ cur.size := by omega
  have hold : (Builtin.firstCells ii.size i (.slice (some ⟨b, 0, none⟩) i c)).run Try.prog w.drew = .ok (cur.toList.take (i * 2)).toArray w.drew := by
    rw [hisz]
    exact run_firstCells_some w.drew 2 i ⟨b, 0, none⟩ i c (cur.toList.take (i * 2)) (by simp; omega) (fun j v hj => by
      have hjl := (List.getElem?_eq_some_iff.1 hj).1
      rw [List.getElem?_take] at hj
      split at hj
      · rw [add_none, Nat.zero_add, cell_at (w := w.drew) hg]; simpa using hj
      · cases hj)
  obtain ⟨G, hG⟩ : ∃ G, G = grownCap w (n + 1) c 32 := ⟨_, rfl⟩
  obtain ⟨ROW, hROW⟩ : ∃ ROW : Array Value, ROW = (cur.toList.take (i * 2)).toArray ++ Builtin.zeroCells z.cells (n + 1 - i) ++ Builtin.zeroCells z.cells (G - (n + 1)) := ⟨_, rfl⟩
  have hrz : ∀ ty, (Builtin.append_ #[22, 3] ty #[.slice (some ⟨b, 0, none⟩) i c, .int .i64 ((n : Int) + 1 - (i : Int))]).run Try.prog w =
      .ok (.slice (some ⟨w.heap.size, 0, none⟩) (n + 1) G) (w.drew.alloc (.cells ROW 32)) := fun ty => by
    have h := Lib.run_append_grow_zeros (P := Try.prog) w 22 3 ty 32 ii z .i64 .i64 ht Try.underlying3 hii hiz (some ⟨b, 0, none⟩) i c (cur.toList.take (i * 2)) hold (n + 1 - i) (by omega) (by omega) (by omega) (by omega) (by rw [hib]; omega) (by rw [hib, hik]; exact growslice_fits hroom hbd)
    rw [hik] at h
    rw [hkk, hROW, hG]
    exact h
  have hGn : n + 1 ≤ G := by rw [hG]; exact grownCap_ge w _ _ _
  have hG63 : G ≤ 9223372036854775807 := by
    have := grownCap_le_maxLen w (n + 1) c 32 (by unfold maxLen; omega)
    rw [← hG] at this
    unfold maxLen at this
    omega
  have hRs : ROW.size = G * 2 := by
    rw [hROW]
    simp only [Array.size_append, List.size_toArray, size_zeroCells, hzs, List.length_take, Array.length_toList, Nat.min_eq_left hi2, ← Nat.add_mul]
    congr 1; omega
  have hRt : ROW.toList.take (i * 2) = cur.toList.take (i * 2) := by
    rw [hROW]
    simp only [Array.toList_append, List.append_assoc]
    have hl : (cur.toList.take (i * 2)).length = i * 2 := by simp; omega
    conv => lhs; rw [← hl]
    rw [hl, List.take_append_of_le_length (by rw [hl]; omega), List.take_of_length_le (by rw [hl]; omega)]
  obtain ⟨X, hX⟩ : ∃ X : Array Value, X = (ROW.toList.take (i * 2) ++ us ++ ROW.toList.drop (i * 2 + 2)).toArray := ⟨_, rfl⟩
  obtain ⟨Y, hY⟩ : ∃ Y : Array Value, Y = (X.toList.take ((i + 1) * 2) ++ (cur.toList.drop (i * 2)).take ((n - i) * 2) ++ X.toList.drop ((i + 1) * 2 + (n - i) * 2)).toArray := ⟨_, rfl⟩
  refine ⟨G, ROW, X, Y, hGn, hG63, hRs, hRt, hX, hY, ?_⟩
  have hXs : X.size = G * 2 := by rw [hX]; simp; omega
  have hgR : (w.alloc (.cells ROW 32)).heap[w.heap.size]? = some (.cells ROW 32 (0, 0)) := (More.alloc w _).new
  have hcpA : ∀ (W : World), W.heap = (w.alloc (.cells ROW 32)).heap → ∀ ty dc, (Builtin.copy_ #[22, 22] ty #[.slice (some ⟨w.heap.size, i * 2, none⟩) (n + 1 - i) dc, .slice (some ⟨vb, voff, none⟩) 1 vc]).run Try.prog W = .ok (goInt (Nat.min 1 (n + 1 - i))) (W.setRow w.heap.size X) := fun W hW ty dc => by
    have hmn : Nat.min 1 (n + 1 - i) = 1 := by simp only [Nat.min_def]; split <;> omega
    have := run_copy_at (P := Try.prog) W (sT := 22) (ty := ty) ht hii w.heap.size (i * 2) (n + 1 - i) dc ROW 32 (by rw [hW]; exact hgR) ⟨vb, voff, none⟩ 1 vc us (by rw [hul, hmn, hisz]) (fun j v hj => by
      rw [add_none]
      have h1 := hus j v hj
      exact (World.cell?_of_block (w := w) (by show W.heap[vb]? = _; rw [hW]; exact (More.alloc w _).old hvw)).trans h1) (by rw [hul]; omega) h1v
    rw [hul, ← hX] at this
    exact this
  have hgX : ((w.alloc (.cells ROW 32)).setRow w.heap.size X).heap[w.heap.size]? = some (.cells X 32 (0, 0)) := setRow_heap _ _ ROW X _ _ hgR
  have hcpB : ∀ (W : World), W.heap = ((w.alloc (.cells ROW 32)).setRow w.heap.size X).heap → ∀ ty dc sc, (Builtin.copy_ #[22, 22] ty #[.slice (some ⟨w.heap.size, (i + 1) * 2, none⟩) (n - i) dc, .slice (some ⟨b, i * 2, none⟩) (n - i) sc]).run Try.prog W = .ok (goInt (Nat.min (n - i) (n - i))) (W.setRow w.heap.size Y) := fun W hW ty dc sc => by
    have hl : ((cur.toList.drop (i * 2)).take ((n - i) * 2)).length = (n - i) * 2 := by simp; omega
    have hmn : Nat.min (n - i) (n - i) = n - i := Nat.min_self _
    have hgb : W.heap[b]? = some (.cells cur t0 (0, 0)) := by
      rw [hW, setRow_other _ _ _ _ (by omega), (More.alloc w _).old hbw]; exact hg
    have := run_copy_at (P := Try.prog) W (sT := 22) (ty := ty) ht hii w.heap.size ((i + 1) * 2) (n - i) dc X 32 (by rw [hW]; exact hgX) ⟨b, i * 2, none⟩ (n - i) sc ((cur.toList.drop (i * 2)).take ((n - i) * 2)) (by rw [hl, hmn, hisz]) (fun j v hj => by
      have hjl := (List.getElem?_eq_some_iff.1 hj).1
      rw [List.getElem?_take, if_pos (by omega), List.getElem?_drop] at hj
      rw [add_none, cell_at hgb]; simpa using hj) (by rw [hl]; omega) (fun v hv => by
      obtain ⟨j, hj, rfl⟩ := List.getElem_of_mem hv
      have hj' : ((cur.toList.drop (i * 2)).take ((n - i) * 2))[j]? = some (((cur.toList.drop (i * 2)).take ((n - i) * 2))[j]) := List.getElem?_eq_getElem hj
      rw [hl] at hj
      rw [List.getElem?_take, if_pos (by omega), List.getElem?_drop] at hj'
      exact h1c (i * 2 + j) _ (by omega) (by simpa using hj'))
    rw [hl, ← hY] at this
    exact this
  have hGi : ¬ (G = i) := by omega
  have hGim : ¬ (G = i + 1) := by omega
  have hci : ¬ (c = i) := by omega
  have hw1 : IntKind.i64.wrap ((i : Int) + 1) = (i : Int) + 1 := by rw [IntKind.wrap_i64]; omega
  have hw2 : IntKind.i64.wrap ((n : Int) + 1) = (n : Int) + 1 := by rw [IntKind.wrap_i64]; omega
  have hw3 : IntKind.i64.wrap ((n : Int) + 1 - (i : Int)) = (n : Int) + 1 - (i : Int) := by rw [IntKind.wrap_i64]; omega
  have hb1 : (0 : Int) ≤ (i : Int) + 1 := by omega
  have hin : i ≤ n := by omega
  have htn : ((i : Int) + 1).toNat = i + 1 := by omega
  have hb3 : (i : Int) ≤ (n : Int) := by omega
  have hb5 : (i : Int) ≤ (n : Int) + 1 := by omega
  clear hkk hik hold hROW hG hX hY hXs hgX hgR hRs hRt h1c h1v hi2
  go_enter Try.func42, Try.ntmps42
  go_wp2_with (at_builtin; refine Lib.wpList_append_run _ rfl _ _ _ _ rfl _ _ rfl rfl _ _ (hrz _) ?_)
  rw [hcpA _ (by rfl)]
  go_wp2_with fail
  go_region_law_o (refine step_copy_runI rfl _ _ 22 22 rfl (.slice (some ⟨w.heap.size, (i + 1) * 2, none⟩) (n - i) (G - (i + 1))) (.slice (some ⟨b, i * 2, none⟩) (n - i) (c - i)) (by simp [Act.eval, Act.put]) (by simp [Act.eval, Act.put]) (hcpB ((w.alloc (.cells ROW 32)).drew.setRow w.heap.size X).drew rfl 3 (G - (i + 1)) (c - i)) ?_)
  go_wp2
  go_ret
  exact ⟨rfl, rfl, rfl, rfl, rfl⟩
end Go.Proofs.Ytnfagphepkeedaa
end
section
namespace Go.Proofs.Ytnfagphepkeedaa
open Go.RowKit Go.Lib

theorem lkC_insert (l : List Lk) (x : Lk) (i : Nat) (hi : i ≤ l.length) : lkC (l.take i ++ x :: l.drop i) = (lkC l).take (i * 2) ++ [uA x.st, slU x.bk] ++ (lkC l).drop (i * 2) := by
  have e1 : lkC (l.take i ++ x :: l.drop i) = lkC (l.take i) ++ [uA x.st, slU x.bk] ++ lkC (l.drop i) := by
    have e : lks (l.take i ++ x :: l.drop i) = lks (l.take i) ++ ([lkA x] ++ lks (l.drop i)) := by simp [lks]
    rw [lkC, e, flat_app, flat_app, List.append_assoc]; rfl
  have e2 : lkC l = lkC (l.take i) ++ lkC (l.drop i) := by
    conv => lhs; rw [← List.take_append_drop i l]
    have e : lks (l.take i ++ l.drop i) = lks (l.take i) ++ lks (l.drop i) := by simp only [lks, List.map_append]
    rw [lkC, e, flat_app]
  have hl : (lkC (l.take i)).length = i * 2 := by rw [lkC_len, List.length_take, Nat.min_eq_left hi]
  rw [e1, e2, ← hl, List.take_left, List.drop_left]
/-- Cells among which others were laid. -/
theorem ins_rep {G : Gh} {xs cs : List AV} {us : List Value} {C D rest : List Value} {a m : Nat} (hu : RepL G cs us) (h3 : ∀ u ∈ us, u.oneCell' = true) (ha : a ≤ xs.length) (hC : xs.length ≤ C.length) (hm : xs.length = a + m) (hD : D = (C.drop a).take m)
    (g4 : ∀ (i : Nat) (x : AV) (v : Value), xs[i]? = some x → C[i]? = some v → v.oneCell' = true ∧ Rep G x v) (q : Nat) (x : AV) (v : Value) (hx : (xs.take a ++ cs ++ xs.drop a)[q]? = some x) (hv : (C.take a ++ us ++ D ++ rest)[q]? = some v) : v.oneCell' = true ∧ Rep G x v := by
  have hl := hu.1
  have hxa : (xs.take a).length = a := by simp; omega
  have hCa : (C.take a).length = a := by simp; omega
  by_cases h1 : q < a
  · rw [List.append_assoc, List.getElem?_append_left (by omega), List.getElem?_take, if_pos h1] at hx
    rw [List.append_assoc, List.append_assoc, List.getElem?_append_left (by omega), List.getElem?_take, if_pos h1] at hv
    exact g4 q x v hx hv
  · by_cases h2 : q < a + cs.length
    · rw [List.getElem?_append_left (by simp; omega), List.getElem?_append_right (by omega), hxa] at hx
      rw [List.append_assoc, List.getElem?_append_left (by simp; omega), List.getElem?_append_right (by omega), hCa] at hv
      exact ⟨h3 v (List.mem_of_getElem? hv), hu.2 _ x v hx hv⟩
    · have hlx : (xs.take a ++ cs).length = a + cs.length := by simp; omega
      have hlC : (C.take a ++ us).length = a + us.length := by simp; omega
      rw [List.getElem?_append_right (by omega), hlx, List.getElem?_drop] at hx
      have hq := (List.getElem?_eq_some_iff.1 hx).1
      have hDl : D.length = m := by rw [hD]; simp; omega
      rw [List.append_assoc (C.take a ++ us), List.getElem?_append_right (by omega), hlC, List.getElem?_append_left (by omega), hD, List.getElem?_take, if_pos (by omega), List.getElem?_drop] at hv
      rw [← hl] at hv
      exact g4 _ x v hx hv
theorem shift_list (C us D R : List Value) {X : List Value} {a : Nat} (ha : a + 2 ≤ C.length) (hX : X = C.take (a + 2) ++ D ++ R) : X.take a ++ us ++ X.drop (a + 2) = C.take a ++ us ++ D ++ R := by
  have hl : (C.take (a + 2)).length = a + 2 := by simp; omega
  have e1 : X.take a = C.take a := by
    rw [hX, List.append_assoc, List.take_append_of_le_length (by omega), List.take_take, Nat.min_eq_left (by omega)]
  have e2 : X.drop (a + 2) = D ++ R := by
    rw [hX, List.append_assoc]
    conv => lhs; rw [← hl]
    rw [hl]; rw [List.drop_append_of_le_length (by omega), List.drop_of_length_le (by omega), List.nil_append]
  rw [e1, e2]; simp
set_option maxRecDepth 100000 in
theorem insert_does (t : Tag) (l : List Lk) (x : Lk) (i : Nat) (hi : i ≤ l.length) (hn : l.length ≤ 1000000) :
    Does Try.prog 42 [.ms 0 l.length, iA i, .sl t 2 [lkA x]] [lkO l] (.ms 0 (l.length + 1)) [lkO (l.take i ++ x :: l.drop i)] := by
  refine ⟨⟨_, Try.func42, by kernel_rfl, by kernel_rfl⟩, fun G w vs hw hr => ?_⟩
  have hl3 := hr.1
  obtain ⟨vl⟩ := vs
  simp only at hr hl3
  obtain ⟨v0, v1, v2, rfl⟩ : ∃ v0 v1 v2, vl = [v0, v1, v2] := by
    match vl, hl3 with
    | [a, b, c], _ => exact ⟨a, b, c, rfl⟩
  have r0 := hr.2 0 _ v0 rfl rfl
  have r1 := hr.2 1 _ v1 rfl rfl
  have r2 := hr.2 2 _ v2 rfl rfl
  have e1 := rep_lit r1
  subst e1
  have hnl : (l.take i ++ x :: l.drop i).length = l.length + 1 := by simp; omega
  have hCl := lkC_insert l x i hi
  have hxl := lkC_len l
  obtain ⟨ii, z, hii, hisz, hib, hiz, hzs⟩ : ∃ ii z, (Try.prog).info? 32 = some ii ∧ ii.size = 2 ∧ ii.bytes = 32 ∧ ii.zero = some z ∧ z.cells.size = 2 := ⟨_, _, rfl, rfl, rfl, rfl, rfl⟩
  have ht := Try.underlying22
  replace hw : Wd G [.mrow 2 l.length (lkC l)] w := hw
  show Calls _ _ _ w fun e w' => ∃ v G', e = .returned v ∧ Rep G' (.ms 0 (l.length + 1)) v ∧ Left G [.mrow 2 l.length (lkC l)] w G' [lkO (l.take i ++ x :: l.drop i)] w'
  generalize hx' : lkO (l.take i ++ x :: l.drop i) = o'
  have ho' : o' = .mrow 2 (l.length + 1) ((lkC l).take (i * 2) ++ [uA x.st, slU x.bk] ++ (lkC l).drop (i * 2)) := by
    rw [← hx']
    show AObj.mrow 2 (l.take i ++ x :: l.drop i).length (lkC (l.take i ++ x :: l.drop i)) = _
    rw [hnl, hCl]
  clear hx'
  subst ho'
  have hlen : ((lkC l).take (i * 2) ++ [uA x.st, slU x.bk] ++ (lkC l).drop (i * 2)).length = (l.length + 1) * 2 := by
    simp only [List.length_append, List.length_take, List.length_drop, hxl, List.length_cons, List.length_nil]; omega
  generalize hn' : l.length = n at *
  generalize lkC l = xs at *
  cases r0 with
  | @ms _ _ A c hh hA =>
    obtain ⟨_, _, A', c', q1, q2, q3, q6, q4⟩ := hw.mrow 0 2 n xs rfl
    rw [hh] at q1; injection q1 with q1; injection q1 with e1 _ e3; subst e1 e3
    obtain ⟨B, m, vc, rfl⟩ : ∃ B m vc, v2 = .slice B m vc := by cases r2; exact ⟨_, _, _, rfl⟩
    obtain ⟨us, hm, huc, hul, hu1, hu2, huk, hu3, _⟩ := sl_cells r2 (by decide)
    have hm1 : m = 1 := hm
    subst hm1
    have hul2 : us.length = 2 := hul
    obtain ⟨b2, o2, rfl, hu4⟩ := hu3 (by simp)
    have hus : ∀ (j : Nat) (u : Value), us[j]? = some u → w.cell? ⟨b2, o2 + j, none⟩ = some u := fun j u hu => hw.imm _ _ _ (hu4 j u hu)
    have hur : RepL G [uA x.st, slU x.bk] us := by
      refine ⟨by rw [hul2]; rfl, fun j y v hy hv => ?_⟩
      obtain ⟨u, h1, h2⟩ := hu2 0 j (lkA x) y rfl hy
      rw [Nat.zero_mul, Nat.zero_add, hv] at h1
      injection h1 with h1; subst h1; exact h2
    have fin : ∀ (w' : World) (b c'' : Nat) (C : List Value) (Y : Array Value) (t0 : TypeId), Kept (fun b => blk G [.mrow 2 n xs] 0 ≠ some b) w w' → w'.heap[b]? = some (.cells Y t0 (0, 0)) → Y.size = c'' * 2 → n + 1 ≤ c'' → c'' ≤ 9223372036854775807 → (w.heap.size ≤ b ∨ blk G [.mrow 2 n xs] 0 = some b) →
        xs.length ≤ C.length → (∀ (i : Nat) (x : AV) (v : Value), xs[i]? = some x → C[i]? = some v → v.oneCell' = true ∧ Rep G x v) → (∃ rest, Y.toList = C.take (i * 2) ++ us ++ (C.drop (i * 2)).take ((n - i) * 2) ++ rest) →
        ∃ v G', Ending.returned (.slice (some ⟨b, 0, none⟩) (n + 1) c'') = .returned v ∧ Rep G' (.ms 0 (n + 1)) v ∧ Left G [.mrow 2 n xs] w G' [.mrow 2 (n + 1) (xs.take (i * 2) ++ [uA x.st, slU x.bk] ++ xs.drop (i * 2))] w' := by
      intro w' b c'' C Y t0 hk hb hY hc1 hc2 hown hC hg ⟨rest, hYe⟩
      have := Left.mrowTo (j := 0) (n := n + 1) (c := c'') (A := some ⟨b, 0, none⟩) (xs := xs.take (i * 2) ++ [uA x.st, slU x.bk] ++ xs.drop (i * 2)) hw (.inr ⟨n, xs, rfl, .inl (by omega)⟩) (by decide) hlen hc1 hc2 hk
        (fun _ => ⟨b, Y, t0, rfl, hb, hY, fun q y v hy hv => ins_rep (m := (n - i) * 2) hur hu1 (by omega) hC (by omega) rfl hg q y v hy (by rw [← hYe]; simpa using hv), hown⟩)
      refine ⟨_, _, rfl, ?_, by simpa using this⟩
      exact .ms (by simp [Gh.newHist]) fun _ => ⟨b, rfl⟩
    by_cases hin : i = n
    · subst hin
      by_cases hroom : i + 1 ≤ c
      · obtain ⟨b, cur, t0, e1, g2, g3, g4, g5⟩ := q4 (by omega)
        subst e1
        have hb : blk G [.mrow 2 i xs] 0 = some b := by simp [blk, hh, show 0 < c by omega]
        have hrn := fun ty => run_append_room' (P := Try.prog) w 22 ty 32 t0 ii ht hii b i c cur g2 ⟨b2, o2, none⟩ 1 vc us (by rw [hul2, hisz]) (fun j u hu => by rw [add_none]; exact hus j u hu) hu1 hroom (by rw [hul2, hisz]; omega)
        refine (insert_end (some ⟨b, 0, none⟩) i c b2 o2 vc w (by omega) (fun h => by cases h) hrn).mono ?_
        rintro e w' ⟨rfl, rfl⟩
        have htn := turn_setRow (cs' := (cur.toList.take (i * ii.size) ++ us ++ cur.toList.drop (i * ii.size + us.length)).toArray) g2
        refine fin _ b c cur.toList _ t0 (htn.own hb) htn.here (by rw [hisz]; simp; omega) hroom q6 (.inr hb) (by simp; omega) (fun q x v hx hv => g4 q x v hx (by simpa using hv)) ⟨cur.toList.drop (i * 2 + us.length), ?_⟩
        rw [hisz, Nat.sub_self, Nat.zero_mul, List.take_zero, List.append_nil]
      · have hci : c = i := by omega
        have hold : ∃ olds : List Value, olds.length = i * 2 ∧ (∀ ad, A = some ad → ∀ j v, olds[j]? = some v → w.cell? (ad.add j) = some v) ∧ (A = none → c = 0 ∧ i = 0) ∧ ∀ (q : Nat) (x : AV) (v : Value), xs[q]? = some x → olds[q]? = some v → v.oneCell' = true ∧ Rep G x v := by
          by_cases hc : 0 < c
          · obtain ⟨b, cur, t0, e1, g2, g3, g4, g5⟩ := q4 hc
            subst e1
            have hcl : (cur.toList.take (i * 2)).length = i * 2 := by simp; omega
            have hcg : ∀ (q : Nat) (v : Value), (cur.toList.take (i * 2))[q]? = some v → cur[q]? = some v := fun q v hv => by
              have := (List.getElem?_eq_some_iff.1 hv).1
              rw [List.getElem?_take, if_pos (by omega)] at hv
              simpa using hv
            exact ⟨cur.toList.take (i * 2), hcl, fun ad had j v hv => by injection had with had; subst had; rw [add_none, Nat.zero_add, cell_at g2]; exact hcg j v hv, fun hA => (by cases hA), fun q x v hx hv => g4 q x v hx (hcg q v hv)⟩
          · exact ⟨[], by simp; omega, fun _ _ _ _ h => by simp at h, fun _ => ⟨by omega, by omega⟩, fun q x v _ h => by simp at h⟩
        obtain ⟨olds, hol, ho1, ho2, ho3⟩ := hold
        obtain ⟨cap, cells, hrn, hge, h63, hcs, hpre⟩ := run_app_new (P := Try.prog) w (ty := 0) ht hii hiz (by rw [hzs, hisz]) (by omega) A i c olds (by rw [hol, hisz]) ho1 ho2 ⟨b2, o2, none⟩ 1 vc us (by rw [hul2, hisz]) (fun j u hu => by rw [add_none]; exact hus j u hu) (by omega) (by omega) (by rw [hib]; omega)
        refine (insert_end A i c b2 o2 vc w (by omega) (fun h => (ho2 h).1) (fun ty => hrn)).mono ?_
        rintro e w' ⟨rfl, rfl⟩
        have hmo := More.drew w (.cells cells 32)
        have hou : (olds ++ us).length = (i + 1) * 2 := by simp [hol, hul2]; omega
        refine fin _ w.heap.size cap olds cells 32 (hmo.kept _) hmo.new (by rw [hcs, hisz]) hge h63 (.inl (Nat.le_refl _)) (by omega) ho3 ⟨cells.toList.drop ((i + 1) * 2), ?_⟩
        have h1 : olds.take (i * 2) = olds := List.take_of_length_le (by omega)
        have h2 : cells.toList.take ((i + 1) * 2) = olds ++ us := by
          apply List.ext_getElem?
          intro q
          by_cases hq : q < (i + 1) * 2
          · rw [List.getElem?_take, if_pos hq]
            have := hpre q _ (List.getElem?_eq_getElem (show q < (olds ++ us).length by omega))
            rw [List.getElem?_eq_getElem (show q < (olds ++ us).length by omega), ← this]; simp
          · rw [List.getElem?_eq_none (by simp; omega), List.getElem?_eq_none (by omega)]
        rw [Nat.sub_self, Nat.zero_mul, List.take_zero, List.append_nil, h1, ← h2, List.take_append_drop]
    · have hlt : i < n := by omega
      obtain ⟨b, cur, t0, e1, g2, g3, g4, g5⟩ := q4 (by omega)
      subst e1
      have hb : blk G [.mrow 2 n xs] 0 = some b := by simp [blk, hh, show 0 < c by omega]
      have hvb : b2 ≠ b := by
        rintro rfl
        have := hu4 0 _ (List.getElem?_eq_getElem (show 0 < us.length by omega))
        rw [g5] at this; cases this
      have hone : ∀ (j : Nat) (v : Value), j < n * 2 → cur[j]? = some v → v.oneCell' = true := fun j v hj hv => (g4 j _ v (List.getElem?_eq_getElem (show j < xs.length by omega)) hv).1
      have hgr : ∀ (q : Nat) (x : AV) (v : Value), xs[q]? = some x → cur.toList[q]? = some v → v.oneCell' = true ∧ Rep G x v := fun q x v hx hv => g4 q x v hx (by simpa using hv)
      by_cases hroom : n + 1 ≤ c
      · refine (insert_shift b n c i b2 o2 vc cur t0 us w hlt hroom q6 hvb g2 g3 hul2 hus hu1 hone _ _ rfl rfl).mono ?_
        rintro e w' ⟨rfl, rfl⟩
        have hd : w.drew.heap[b]? = some (.cells cur t0 (0, 0)) := g2
        have t1 := turn_setRow (cs' := (cur.toList.take ((i + 1) * 2) ++ (cur.toList.drop (i * 2)).take ((n - i) * 2) ++ cur.toList.drop ((i + 1) * 2 + (n - i) * 2)).toArray) hd
        have t2 := turn_setRow (cs' := ((cur.toList.take ((i + 1) * 2) ++ (cur.toList.drop (i * 2)).take ((n - i) * 2) ++ cur.toList.drop ((i + 1) * 2 + (n - i) * 2)).toArray.toList.take (i * 2) ++ us ++ (cur.toList.take ((i + 1) * 2) ++ (cur.toList.drop (i * 2)).take ((n - i) * 2) ++ cur.toList.drop ((i + 1) * 2 + (n - i) * 2)).toArray.toList.drop (i * 2 + 2)).toArray) t1.here
        have k1 : Kept (fun b => blk G [.mrow 2 n xs] 0 ≠ some b) w w.drew := (Kept.refl _ w).drew
        refine fin _ b c cur.toList _ t0 ((k1.trans (t1.kept fun hn => hn hb)).trans (t2.kept fun hn => hn hb)) t2.here (by simp; omega) hroom q6 (.inr hb) (by simp; omega) hgr ⟨cur.toList.drop ((i + 1) * 2 + (n - i) * 2), ?_⟩
        exact shift_list (a := i * 2) _ us _ _ (by simp; omega) (by rw [show i * 2 + 2 = (i + 1) * 2 by omega])
      · obtain ⟨cap, ROW, X, Y, h1, h2, h3, h4, hX, hY, hcall⟩ := insert_grow b n c i b2 o2 vc cur t0 us w hlt q3 (by omega) (by omega) g2 g3 hul2 hus hu1 hone
        refine hcall.mono ?_
        rintro e w' ⟨rfl, ho, htp, hout, hheap⟩
        have m0 := More.alloc w (.cells ROW 32)
        have t1 := turn_setRow (cs' := X) m0.new
        have t2 := turn_setRow (cs' := Y) t1.here
        have hXs : X.size = cap * 2 := by rw [hX]; simp; omega
        have hYs : Y.size = cap * 2 := by rw [hY]; simp; omega
        have hk : Kept (fun b => blk G [.mrow 2 n xs] 0 ≠ some b) w w' := ⟨ho, htp, hout, by rw [hheap, t2.size, t1.size, m0.size]; omega, fun q hq _ => by rw [hheap, t2.other q (by omega), t1.other q (by omega), m0.old hq]⟩
        refine fin w' w.heap.size cap cur.toList Y 32 hk (by rw [hheap]; exact t2.here) hYs h1 h2 (.inl (Nat.le_refl _)) (by simp; omega) hgr ⟨X.toList.drop ((i + 1) * 2 + (n - i) * 2), ?_⟩
        rw [hY]
        show X.toList.take ((i + 1) * 2) ++ _ ++ _ = _
        have e1 : X.toList.take ((i + 1) * 2) = cur.toList.take (i * 2) ++ us := by
          rw [hX]
          show (ROW.toList.take (i * 2) ++ us ++ _).take ((i + 1) * 2) = _
          rw [h4, List.take_append_of_le_length (by simp; omega), List.take_of_length_le (by simp; omega)]
        rw [e1]
theorem lks_untag (t : Tag) (x : Lk) : (AV.sl t 2 [lkA x]).ren = fun ρ => .sl (t.ren ρ) 2 [lkA x] := by
  funext ρ
  rw [ren_sl]
  simp [ixs_z]
theorem slices_Insert (l : List Lk) (x : Lk) (k i : Nat) (hi : i ≤ l.length) (hn : l.length ≤ 1000000) :
    Ct Try.prog 42 [.ms k l.length, iA i, .sl .full 2 [lkA x]] [(k, lkO l)] (fun _ => .ms k (l.length + 1)) [(k, lkO (l.take i ++ x :: l.drop i))] (fun _ => []) :=
  Ct.o1 (insert_does .full l x i hi hn) k (fun N => by simp [lks_untag, ixs_z]) (fun ρ => lkO_ren ρ _) (fun ρ => lkO_ren ρ _) (by simp [lkO]) (fun N => by simp [ixs_z])
end Go.Proofs.Ytnfagphepkeedaa
end
section
namespace Go.Proofs.Ytnfagphepkeedaa
open Go.RowKit

set_option maxRecDepth 100000 in
theorem place_ms0 (f : FuncId) (o : AObj) (ok : Lk → Bool) (ho : ∀ ρ, o.ren ρ = o) (hd : o ≠ .dead) (l : List Lk) (hf : ∀ x ∈ l, ∀ i, Ct Try.prog f [lkA x, .ref i 0] [(i, o)] (fun _ => bA (ok x)) [] (fun _ => [])) (hn : l.length ≤ 1000000) :
    Does Try.prog 39 [.ms 0 l.length, .fn f [] [.ref 1 0]] [.mrow 2 l.length (lkC l), o] (iA (l.findIdx ok)) [.mrow 2 l.length (lkC l), o] := by
  have hcl := lkC_len l
  have hcr := fun ρ => lkC_ren ρ l
  refine Does.runA Try.func39 b39 n39 Try.ntmps39 ?_; simp only [c39, go_sem, Nat.reduceAdd, Nat.reduceMul, Int.reduceToNat, Nat.reduceLeDiff, Int.reduceLE, Int.reduceLT, ↓reduceIte, Int.reduceBEq, Int.reduceBNe, Int.reduceAdd, Int.reduceSub, Int.reduceMul]; try refine okTr_and rfl ?_
  refine loop_of (α := Nat) (fun k => [.ms 0 l.length, .fn f [] [.ref 1 0], .any, .any, .any, .any, .any, .ms 0 l.length, iA l.length, iA k, .any, .any, .any, .any, .any, .any, .any, .any, .any, .any, .any]) (fun _ => [.mrow 2 l.length (lkC l), o]) (fun k => k ≤ l.length ∧ ∀ i (h : i < l.length), i < k → ok l[i] = false) (fun k => l.length - k) 0 ⟨by simp, fun i _ hi => by omega⟩ (Wk.to (by simp) (by simp [leT])) ?_
  rintro k ⟨hk, hall⟩
  (simp only [go_sem, Nat.reduceAdd, Nat.reduceMul, Int.reduceToNat, Nat.reduceLeDiff, Int.reduceLE, Int.reduceLT, ↓reduceIte, Int.reduceBEq, Int.reduceBNe, Int.reduceAdd, Int.reduceSub, Int.reduceMul]; try refine okTr_and rfl ?_)
  by_cases hlt : k < l.length
  · have q1 : decide ((k : Int) < (l.length : Int)) = true := by simp; omega
    have ek := i64_succ k (by omega)
    have g := lkC_part l k hlt
    have eg : l.getD k lk0 = l[k] := by simp [hlt]
    have hm := lk_mem l k hlt
    have hfx := hf _ hm 1
    rw [eg] at g hfx
    (simp only [go_sem, Nat.reduceAdd, Nat.reduceMul, Int.reduceToNat, Nat.reduceLeDiff, Int.reduceLE, Int.reduceLT, ↓reduceIte, Int.reduceBEq, Int.reduceBNe, Int.reduceAdd, Int.reduceSub, Int.reduceMul, q1, g, hcl, Int.toNat_natCast]; try refine okTr_and rfl ?_)
    (repeat ((with_reducible refine And.intro ?_ ?_); (· exact sd)))
    refine CallK.r1 (hfx) rfl ?_
    by_cases hs : ok l[k] = true
    · have e : l.findIdx ok = k := by
        rw [List.findIdx_eq hlt]
        exact ⟨hs, fun j hj => hall j (by omega) hj⟩
      (simp only [go_sem, Nat.reduceAdd, Nat.reduceMul, Int.reduceToNat, Nat.reduceLeDiff, Int.reduceLE, Int.reduceLT, ↓reduceIte, Int.reduceBEq, Int.reduceBNe, Int.reduceAdd, Int.reduceSub, Int.reduceMul, hs]; try refine okTr_and rfl ?_)
      ((refine FinK.finB r39 [0, 1] ?_ ?_); (· first | with_reducible rfl | (simp [e, ho, hcr]; done) | rfl); (· simp [resAL, resA1, loadA, oneOr, e, ho, hcr]))
    · have hs' : ok l[k] = false := by simpa using hs
      (simp only [go_sem, Nat.reduceAdd, Nat.reduceMul, Int.reduceToNat, Nat.reduceLeDiff, Int.reduceLE, Int.reduceLT, ↓reduceIte, Int.reduceBEq, Int.reduceBNe, Int.reduceAdd, Int.reduceSub, Int.reduceMul, hs', ek]; try refine okTr_and rfl ?_)
      exact ⟨k + 1, ⟨hlt, fun i h hi => by
        rcases Nat.lt_or_ge i k with h1 | h1
        · exact hall i h h1
        · obtain rfl : i = k := by omega
          exact hs'⟩, by omega, Wk.sel [0, 1] (by simp) rfl (by simp) rfl (by simp [ho, hcr]) (by simp [selT, ixs_z])⟩
  · have q1 : decide ((k : Int) < (l.length : Int)) = false := by simp; omega
    have e : l.findIdx ok = l.length := fidx_no fun x hx => by
      obtain ⟨i, hi, rfl⟩ := List.getElem_of_mem hx
      exact hall i hi (by omega)
    (simp only [go_sem, Nat.reduceAdd, Nat.reduceMul, Int.reduceToNat, Nat.reduceLeDiff, Int.reduceLE, Int.reduceLT, ↓reduceIte, Int.reduceBEq, Int.reduceBNe, Int.reduceAdd, Int.reduceSub, Int.reduceMul, q1]; try refine okTr_and rfl ?_)
    ((refine FinK.finB r39 [0, 1] ?_ ?_); (· first | with_reducible rfl | (simp [e, ho, hcr]; done) | rfl); (· simp [resAL, resA1, loadA, oneOr, e, ho, hcr]))
theorem place_ms (f : FuncId) (o : AObj) (ok : Lk → Bool) (ho : ∀ ρ, o.ren ρ = o) (hd : o ≠ .dead) (l : List Lk) (hf : ∀ x ∈ l, ∀ i, Ct Try.prog f [lkA x, .ref i 0] [(i, o)] (fun _ => bA (ok x)) [] (fun _ => [])) (hn : l.length ≤ 1000000) (i j : Nat) (hij : i ≠ j) :
    Ct Try.prog 39 [.ms i l.length, .fn f [] [.ref j 0]] [(i, .mrow 2 l.length (lkC l)), (j, o)] (fun _ => iA (l.findIdx ok)) [] (fun _ => []) :=
  Ct.r2 (place_ms0 f o ok ho hd l hf hn) i j hij (fun N => by simp [ixs_z]) (fun N => by rw [oren_mrow, lkC_ren]) (fun N => ho _) (by simp) hd (fun ρ => by simp [ixs_z])

abbrev lkB (x : Lk) : AObj := .cells [uA x.st, slU x.bk]
theorem lkB_ren (ρ : Nat → Nat) (x : Lk) : (lkB x).ren ρ = lkB x := by simp [ixs_z]
theorem link_With10 (x y : Lk) : Does Try.prog 41 [lkA y, .ref 0 0] [lkB x] (bA (y.st == x.st)) [lkB x] := by
  refine Does.runA Try.func41 b41 n41 Try.ntmps41 ?_; simp only [c41, go_sem, Nat.reduceAdd, Nat.reduceMul, Int.reduceToNat, Nat.reduceLeDiff, Int.reduceLE, Int.reduceLT, ↓reduceIte, Int.reduceBEq, Int.reduceBNe, Int.reduceAdd, Int.reduceSub, Int.reduceMul]; try refine okTr_and rfl ?_
  exact FinK.finA r41 [0]
theorem link_With1 (x y : Lk) (i : Nat) : Ct Try.prog 41 [lkA y, .ref i 0] [(i, lkB x)] (fun _ => bA (y.st == x.st)) [] (fun _ => []) :=
  Ct.r1 (link_With10 x y) i cl (fun ρ => lkB_ren ρ x) (by simp) clo
theorem link_With20 (x y : Lk) : Does Try.prog 43 [lkA y, .ref 0 0] [lkB x] (bA (decide (x.st < y.st))) [lkB x] := by
  refine Does.runA Try.func43 b43 n43 Try.ntmps43 ?_; simp only [c43, go_sem, Nat.reduceAdd, Nat.reduceMul, Int.reduceToNat, Nat.reduceLeDiff, Int.reduceLE, Int.reduceLT, ↓reduceIte, Int.reduceBEq, Int.reduceBNe, Int.reduceAdd, Int.reduceSub, Int.reduceMul]; try refine okTr_and rfl ?_
  exact FinK.finA r43 [0]
theorem link_With2 (x y : Lk) (i : Nat) : Ct Try.prog 43 [lkA y, .ref i 0] [(i, lkB x)] (fun _ => bA (decide (x.st < y.st))) [] (fun _ => []) :=
  Ct.r1 (link_With20 x y) i cl (fun ρ => lkB_ren ρ x) (by simp) clo
/-- Where the first link of a stream stands. -/
def findL (l : List Lk) (id : Int) : Nat := l.findIdx fun y => y.st == id
/-- Links with one more, or another one. -/
def withL (l : List Lk) (x : Lk) : List Lk := if findL l x.st < l.length then l.set (findL l x.st) x else l.take (l.findIdx fun y => decide (x.st < y.st)) ++ x :: l.drop (l.findIdx fun y => decide (x.st < y.st))
theorem withL_len (l : List Lk) (x : Lk) : (withL l x).length = if findL l x.st < l.length then l.length else l.length + 1 := by
  unfold withL
  have hle : (l.findIdx fun y => decide (x.st < y.st)) ≤ l.length := List.findIdx_le_length
  split
  · simp
  · simp; omega
theorem link_CopyM (l : List Lk) (hm : Smalls l) : Ct Try.prog 25 [slL l] [] (fun n => .ms n l.length) [] (fun _ => [.mrow 2 l.length (lkC l)]) :=
  Ct.n (link_CopyM0 l hm) cl (fun n N => by simp [ixs, List.range'_succ]) (fun n N => by rw [List.map_cons, List.map_nil, oren_mrow, lkC_ren])
set_option maxRecDepth 100000 in
theorem link_With0 (l : List Lk) (x : Lk) (hm : Smalls l) (hx : x.bk.length ≤ 1000000) : Does Try.prog 16 [slL l, lkA x] [] (.ms 0 (withL l x).length) [lkO (withL l x)] := by
  have hle : findL l x.st ≤ l.length := List.findIdx_le_length
  have hle2 : (l.findIdx fun y => decide (x.st < y.st)) ≤ l.length := List.findIdx_le_length
  have e0 : (l.findIdx fun y => y.st == x.st) = findL l x.st := rfl
  have hwl := withL_len l x
  have hcr := fun ρ m => lkC_ren ρ m
  refine Does.runA Try.func16 b16 n16 Try.ntmps16 ?_; simp only [c16, go_sem, Nat.reduceAdd, Nat.reduceMul, Int.reduceToNat, Nat.reduceLeDiff, Int.reduceLE, Int.reduceLT, ↓reduceIte, Int.reduceBEq, Int.reduceBNe, Int.reduceAdd, Int.reduceSub, Int.reduceMul]; try refine okTr_and rfl ?_
  (repeat ((with_reducible refine And.intro ?_ ?_); (· exact sd)))
  refine CallK.n (link_CopyM l hm) ?_; (simp only [go_sem, Nat.reduceAdd, Nat.reduceMul, Int.reduceToNat, Nat.reduceLeDiff, Int.reduceLE, Int.reduceLT, ↓reduceIte, Int.reduceBEq, Int.reduceBNe, Int.reduceAdd, Int.reduceSub, Int.reduceMul]; try refine okTr_and rfl ?_)
  (repeat ((with_reducible refine And.intro ?_ ?_); (· exact sd)))
  refine CallK.p (link_cpd x hx) ?_; (simp only [go_sem, Nat.reduceAdd, Nat.reduceMul, Int.reduceToNat, Nat.reduceLeDiff, Int.reduceLE, Int.reduceLT, ↓reduceIte, Int.reduceBEq, Int.reduceBNe, Int.reduceAdd, Int.reduceSub, Int.reduceMul]; try refine okTr_and rfl ?_)
  (repeat ((with_reducible refine And.intro ?_ ?_); (· exact sd)))
  refine CallK.r2 (place_ms 41 (lkB x) (fun y => y.st == x.st) (fun ρ => lkB_ren ρ x) (by simp) l (fun y _ i => link_With1 x y i) hm.1 1 0 (by decide)) rfl rfl ?_; (simp only [go_sem, Nat.reduceAdd, Nat.reduceMul, Int.reduceToNat, Nat.reduceLeDiff, Int.reduceLE, Int.reduceLT, ↓reduceIte, Int.reduceBEq, Int.reduceBNe, Int.reduceAdd, Int.reduceSub, Int.reduceMul, e0]; try refine okTr_and rfl ?_)
  by_cases h : findL l x.st < l.length
  · have q : decide (((findL l x.st : Nat) : Int) < (l.length : Int)) = true := by simp; omega
    have ew : withL l x = l.set (findL l x.st) x := by unfold withL; rw [if_pos h]
    have hs := lkC_set l x (findL l x.st) h
    have hcl := lkC_len l
    rw [if_pos h] at hwl
    (simp only [go_sem, Nat.reduceAdd, Nat.reduceMul, Int.reduceToNat, Nat.reduceLeDiff, Int.reduceLE, Int.reduceLT, ↓reduceIte, Int.reduceBEq, Int.reduceBNe, Int.reduceAdd, Int.reduceSub, Int.reduceMul, q, Int.toNat_natCast, hcl, hs]; try refine okTr_and rfl ?_)
    (repeat ((with_reducible refine And.intro ?_ ?_); (· exact sd)))
    have er : lkO (withL l x) = .mrow 2 l.length (lkC (l.set (findL l x.st) x)) := by
      show AObj.mrow 2 (withL l x).length (lkC (withL l x)) = _
      rw [hwl, ew]
    rw [er, hwl]
    ((refine FinK.finB r16 [1] ?_ ?_); (· first | with_reducible rfl | (simp [hcr]; done) | rfl); (· simp [resAL, resA1, loadA, oneOr, hcr]))
  · have q : decide (((findL l x.st : Nat) : Int) < (l.length : Int)) = false := by simp; omega
    have ew : withL l x = l.take (l.findIdx fun y => decide (x.st < y.st)) ++ x :: l.drop (l.findIdx fun y => decide (x.st < y.st)) := by unfold withL; rw [if_neg h]
    rw [if_neg h] at hwl
    (simp only [go_sem, Nat.reduceAdd, Nat.reduceMul, Int.reduceToNat, Nat.reduceLeDiff, Int.reduceLE, Int.reduceLT, ↓reduceIte, Int.reduceBEq, Int.reduceBNe, Int.reduceAdd, Int.reduceSub, Int.reduceMul, q]; try refine okTr_and rfl ?_)
    refine CallK.r2 (place_ms 43 (lkB x) (fun y => decide (x.st < y.st)) (fun ρ => lkB_ren ρ x) (by simp) l (fun y _ i => link_With2 x y i) hm.1 1 0 (by decide)) rfl rfl ?_; (simp only [go_sem, Nat.reduceAdd, Nat.reduceMul, Int.reduceToNat, Nat.reduceLeDiff, Int.reduceLE, Int.reduceLT, ↓reduceIte, Int.reduceBEq, Int.reduceBNe, Int.reduceAdd, Int.reduceSub, Int.reduceMul]; try refine okTr_and rfl ?_)
    (repeat ((with_reducible refine And.intro ?_ ?_); (· exact sd)))
    refine CallK.o1 (slices_Insert l x 1 _ hle2 hm.1) rfl ?_; (simp only [go_sem, Nat.reduceAdd, Nat.reduceMul, Int.reduceToNat, Nat.reduceLeDiff, Int.reduceLE, Int.reduceLT, ↓reduceIte, Int.reduceBEq, Int.reduceBNe, Int.reduceAdd, Int.reduceSub, Int.reduceMul]; try refine okTr_and rfl ?_)
    rw [hwl, ← ew]
    refine FinK.finB r16 [1] ?_ ?_
    · simp only [List.map_cons, List.map_nil, List.getElem?_cons_succ, List.getElem?_cons_zero, lkO_ren]
    · simp [resAL, resA1, loadA, oneOr]
theorem lks_ren (ρ : Nat → Nat) (l : List Lk) : (lks l).map (fun x => x.ren ρ) = lks l := ren_lks ρ l
theorem link_With (l : List Lk) (x : Lk) (hm : Smalls l) (hx : x.bk.length ≤ 1000000) : Ct Try.prog 16 [slL l, lkA x] [] (fun _ => slL (withL l x)) [] (fun _ => []) := ((link_With0 l x hm hx).freeze (lks (withL l x)) (lks_length _) (lks_k _) (fun ρ => lks_ren ρ _)).toCt cl cl
end Go.Proofs.Ytnfagphepkeedaa
end
section
namespace Go.Proofs.Ytnfagphepkeedaa
open Go.RowKit

end Go.Proofs.Ytnfagphepkeedaa
end
section
namespace Go.Proofs.Ytnfagphepkeedaa
open Go.RowKit

end Go.Proofs.Ytnfagphepkeedaa
end
section
namespace Go.Proofs.Ytnfagphepkeedaa

def cstep (c : Nat) : Nat := if c % 2 = 1 then (c / 2) ^^^ 2197175160 else c / 2
def csteps : Nat → Nat → Nat
  | 0, c => c
  | n + 1, c => csteps n (cstep c)
def cinto (c x : Nat) : Nat := csteps 8 (c ^^^ x)
def crcA (c : Nat) (l : List Nat) : Nat := l.foldl cinto c
end Go.Proofs.Ytnfagphepkeedaa
end
section
namespace Go.Proofs.Ytnfagphepkeedaa

def nats (l : List Int) : List Nat := l.map Int.toNat
/-- The sum of bytes. -/
def crcI (l : List Int) : Int := 4294967295 - (crcA 4294967295 (nats l) : Nat)
def frameB (p : List Int) : List Int := blobB p ++ lowBytes 4 (crcI p)
def mfr (m : Int) : Int := min m 2097152
/-- The reader behind a frame, and its payload. -/
def RS.frame (s : RS) (m : Int) : RS × List Int :=
  if ((s.blob (mfr m)).1.fixed 4).1.code = 0 then
    (if ((s.blob (mfr m)).1.fixed 4).2 = crcI (s.blob (mfr m)).2 then (((s.blob (mfr m)).1.fixed 4).1, (s.blob (mfr m)).2) else (((s.blob (mfr m)).1.fixed 4).1.fail 6 (s.blob (mfr m)).1.at_, []))
  else (((s.blob (mfr m)).1.fixed 4).1, [])
theorem frameB_len (p : List Int) : (frameB p).length = (blobB p).length + 4 := by unfold frameB; rw [List.length_append, lowBytes_len]
theorem fixed_keep {s : RS} (h : ROk s) (n : Int) : ROk (s.fixed n).1 ∧ (s.fixed n).1.l = s.l := ⟨h.take n, (h.ok.take n).2⟩
theorem frameB_bys {p : List Int} (hp : Bys p) (h : p.length < 18446744073709551616) : Bys (frameB p) := by
  intro y hy
  rcases List.mem_append.1 hy with hy | hy
  · rcases List.mem_append.1 hy with hy | hy
    · exact vb_by (by omega) (by omega) y hy
    · exact hp y hy
  · exact lowBytes_bys 4 _ y hy
end Go.Proofs.Ytnfagphepkeedaa
end
section
namespace Go.Proofs.Ytnfagphepkeedaa
open Go.RowKit

end Go.Proofs.Ytnfagphepkeedaa
end
section
namespace Go.Proofs.Ytnfagphepkeedaa

/-- How many bytes a frame has. -/
def sizeF (n : Int) : Int := (vb (max n 0)).length + max n 0 + 4
theorem sizeF_frame {p : List Int} : sizeF p.length = (frameB p).length := by
  rw [frameB_len]; unfold sizeF blobB
  have : max (p.length : Int) 0 = p.length := by omega
  rw [this, List.length_append]; omega
/-- How many bytes a frame has, by its length (0: it can't be told). -/
def wholeF (b : List Int) (m : Int) : Int := if ((RS.new b).int (mfr m)).1.code = 0 then sizeF ((RS.new b).int (mfr m)).2 else 0
end Go.Proofs.Ytnfagphepkeedaa
end
section
namespace Go.Proofs.Ytnfagphepkeedaa

/-- Where there is no fault, its place is 0. -/
def Cl (s : RS) : Prop := s.code = 0 → s.fat = 0
theorem Cl.new (l : List Int) : Cl (RS.new l) := fun _ => rfl
theorem Cl.fail {s : RS} (h : Cl s) (c a : Int) : Cl (s.fail c a) := by
  unfold RS.fail
  split
  · intro hc
    simp only [flt] at hc ⊢
    by_cases h0 : c = 0
    · rw [if_pos h0]
    · rw [if_neg h0] at hc; exact absurd hc h0
  · exact h
theorem Cl.adv {s : RS} (h : Cl s) (i : Int) : Cl (s.adv i) := h
theorem Cl.skip {s : RS} (h : Cl s) (n : Int) : Cl (s.skip n).1 := by
  unfold RS.skip
  repeat' split
  all_goals first | exact h.fail _ _ | exact h
theorem Cl.take {s : RS} (h : Cl s) (n : Int) : Cl (s.take n).1 := by
  unfold RS.take; split <;> exact h.skip n
theorem Cl.byte {s : RS} (h : Cl s) : Cl s.byte.1 := by
  unfold RS.byte; split <;> exact h.skip 1
theorem Cl.vint {s : RS} (h : Cl s) : Cl s.vint.1 := by
  unfold RS.vint
  split
  · split
    · exact h
    · split
      · intro hc; simp at hc
      · rename_i h1 _; intro hc; exact absurd hc h1
  · exact h
theorem Cl.most {s : RS} (h : Cl s) (m : Int) : Cl (s.most m).1 := by
  unfold RS.most; split
  · exact h.vint.fail _ _
  · exact h.vint
theorem Cl.int {s : RS} (h : Cl s) (m : Int) : Cl (s.int m).1 := by
  unfold RS.int; split
  · exact h.most m
  · exact h.vint.fail _ _
theorem Cl.blob {s : RS} (h : Cl s) (m : Int) : Cl (s.blob m).1 := (h.int m).take _
theorem Cl.fixed {s : RS} (h : Cl s) (n : Int) : Cl (s.fixed n).1 := h.take n
theorem Cl.frame {s : RS} (h : Cl s) (m : Int) : Cl (s.frame m).1 := by
  have := (h.blob (mfr m)).fixed 4
  unfold RS.frame
  repeat' split
  · exact this
  · exact this.fail _ _
  · exact this
end Go.Proofs.Ytnfagphepkeedaa
end
section
namespace Go.Proofs.Ytnfagphepkeedaa

def epRight (e : Int) : Bool := decide (1 ≤ e) && decide (e < 4611686018427387904)
def epPos (e : Int) : Bool := decide (e < 4611686018427387904)
/-- The next number, where ok lets it be. -/
def RS.epo (s : RS) (ok : Int → Bool) : RS × Int := if s.vint.1.code = 0 then (if ok s.vint.2 = true then s.vint else (s.vint.1.fail 3 s.at_, 0)) else (s.vint.1, 0)
theorem epo_keep {s : RS} (h : ROk s) (ok : Int → Bool) : ROk (s.epo ok).1 ∧ (s.epo ok).1.l = s.l := by
  obtain ⟨a, b⟩ := h.vint
  unfold RS.epo
  repeat' split
  · exact ⟨a, b⟩
  · exact ⟨a.fail _ _, by rw [fail_l]; exact b⟩
  · exact ⟨a, b⟩
theorem fail_not3 {s : RS} (a : Int) (h : s.code = 0) : ¬ (s.fail 3 a).code = 0 := by
  unfold RS.fail; rw [if_pos h]; simp [flt]
theorem epo_code {s : RS} {ok : Int → Bool} (hc : (s.epo ok).1.code = 0) : s.vint.1.code = 0 ∧ ok s.vint.2 = true ∧ s.epo ok = s.vint := by
  unfold RS.epo at hc ⊢
  by_cases h : s.vint.1.code = 0
  · rw [if_pos h] at hc ⊢
    by_cases ho : ok s.vint.2 = true
    · rw [if_pos ho]; exact ⟨h, ho, rfl⟩
    · rw [if_neg ho] at hc; exact absurd hc (fail_not3 _ h)
  · rw [if_neg h] at hc; exact absurd hc h
theorem epo_is {s : RS} (h : ROk s) {ok : Int → Bool} (hc : (s.epo ok).1.code = 0) : s.code = 0 ∧ 0 ≤ (s.epo ok).2 ∧ (s.epo ok).2 < 18446744073709551616 ∧ ok (s.epo ok).2 = true ∧ s.at_ < (s.epo ok).1.at_ ∧ s.l.take (s.epo ok).1.at_.toNat = s.l.take s.at_.toNat ++ vb (s.epo ok).2 := by
  obtain ⟨h1, h2, h3⟩ := epo_code hc
  have hv := vint_range (s := s) h.bys
  obtain ⟨v1, v2, v3⟩ := vint_bytes h h1
  have ha := vint_adv h h1
  rw [h3]
  exact ⟨v3, hv.1, hv.2, h2, by omega, v1⟩
theorem epo_bad {s : RS} {ok : Int → Bool} (hc : ¬ (s.epo ok).1.code = 0) : (s.epo ok).2 = 0 := by
  unfold RS.epo at hc ⊢
  split
  · rename_i h
    rw [if_pos h] at hc
    split
    · rename_i ho; rw [if_pos ho] at hc; exact absurd h hc
    · rfl
  · rfl
end Go.Proofs.Ytnfagphepkeedaa
end
section
namespace Go.Proofs.Ytnfagphepkeedaa

theorem Cl.epo {s : RS} (h : Cl s) (ok : Int → Bool) : Cl (s.epo ok).1 := by
  unfold RS.epo
  repeat' split
  · exact h.vint
  · exact h.vint.fail _ _
  · exact h.vint
/-- A header. -/
structure Hd where
  ver : Int
  ep : Int
  base : Int
  deriving DecidableEq
structure Hd.ok (h : Hd) : Prop where
  v0 : -9223372036854775808 ≤ h.ver
  v1 : h.ver < 9223372036854775808
  e0 : 0 ≤ h.ep
  e1 : h.ep < 18446744073709551616
  b0 : 0 ≤ h.base
  b1 : h.base < 18446744073709551616
/-- The bytes between two places. -/
def RS.from (s t : RS) : List Int := (s.l.drop s.at_.toNat).take (t.at_.toNat - s.at_.toNat)
end Go.Proofs.Ytnfagphepkeedaa
end
section
namespace Go.Proofs.Ytnfagphepkeedaa

/-- An entry: its links, its data. -/
structure En where
  lk : List Lk
  data : List Int
def en0 : En := ⟨[], []⟩
structure En.ok (e : En) : Prop where
  lk : Lks e.lk
  data : Bys e.data
def Ens (l : List En) : Prop := ∀ e ∈ l, e.ok
def rightE (pos : Int) (e : En) : Bool := rightL pos e.lk && decide (e.data.length ≤ 1048576)
theorem Cl.many {β : Type} {F : Fmt β} (hF : ∀ s acc, Cl s → Cl (F.f s acc).1) : ∀ (n : Nat) (s : RS) (acc : List β), Cl s → Cl (F.many n s acc).1 := by
  intro n
  induction n with
  | zero => intro s acc h; exact h
  | succ n ih =>
    intro s acc h
    unfold Fmt.many
    split
    · exact ih _ _ (hF s acc h)
    · exact hF s acc h
theorem Cl.counted {β : Type} {F : Fmt β} (hF : ∀ s acc, Cl s → Cl (F.f s acc).1) {s : RS} (h : Cl s) (m : Int) : Cl (F.counted m s).1 := Cl.many hF _ _ _ (h.int m)
theorem Cl.fall {s : RS} (h : Cl s) (b m : Int) : Cl (s.fall b m).1 := by
  refine Cl.counted (F := fallF b) (fun s acc h => ?_) h m
  simp only [fallF]
  split
  · exact h.vint.fail _ _
  · exact h.vint
theorem Cl.links {s : RS} (h : Cl s) (pos : Int) : Cl (s.links pos).1 := by
  refine Cl.counted (F := linkF pos) (fun s acc h => ?_) h 16
  simp only [linkF]
  refine Cl.fall ?_ _ _
  unfold RS.lkHead
  split
  · exact h.vint.fail _ _
  · exact h.vint
/-- Entries' data, one behind the other. -/
def joinE (l : List En) : List Int := l.flatMap (·.data)
end Go.Proofs.Ytnfagphepkeedaa
end
section
namespace Go.Proofs.Ytnfagphepkeedaa

section
variable {pre : List Int}
end
end Go.Proofs.Ytnfagphepkeedaa
end
section
namespace Go.Proofs.Ytnfagphepkeedaa

/-- A footer. -/
structure Ft where
  ep : Int
  bat : Int
  ent : Int
  fst : Int
  fin : Int
  at_ : Int
  size : Int
  deriving DecidableEq
structure Ft.ok (f : Ft) : Prop where
  ep : 0 ≤ f.ep ∧ f.ep < 18446744073709551616
  bat : -9223372036854775808 ≤ f.bat ∧ f.bat < 9223372036854775808
  ent : -9223372036854775808 ≤ f.ent ∧ f.ent < 9223372036854775808
  fst : 0 ≤ f.fst ∧ f.fst < 18446744073709551616
  fin : 0 ≤ f.fin ∧ f.fin < 18446744073709551616
  at_ : -9223372036854775808 ≤ f.at_ ∧ f.at_ < 9223372036854775808
  size : -9223372036854775808 ≤ f.size ∧ f.size < 9223372036854775808
def RS.rest9 (s : RS) : RS := if 0 < s.left then s.fail 9 s.at_ else s
end Go.Proofs.Ytnfagphepkeedaa
end
section
namespace Go.Proofs.Ytnfagphepkeedaa

/-- An entry of the version 1. -/
structure O1 where
  st : Int
  bk : Int
  hb : Bool
  data : List Int
  deriving DecidableEq
def o10 : O1 := ⟨0, 0, false, []⟩
structure O1.ok (x : O1) : Prop where
  s0 : 0 ≤ x.st
  s1 : x.st < 18446744073709551616
  b0 : 0 ≤ x.bk
  b1 : x.bk < 18446744073709551616
  data : Bys x.data
/-- A segment of the version 1. -/
structure Sg1 where
  ep : Int
  base : Int
  en : List O1
  deriving DecidableEq
def sumO (l : List O1) : Int := ((l.flatMap (·.data)).length : Int)
/-- Are so many positions some, from one on? -/
def fitsB (base n : Int) : Bool := decide (base < 4611686018427387904) && decide (base + n ≤ 4611686018427387904)
def goodO (pos : Int) (x : O1) : Bool := if x.hb = true then decide (x.bk < pos) else decide (x.bk = 0)
/-- By how much the entry ahead is ahead; 0: there is none. -/
def backO (pos : Int) (x : O1) : Int := if x.hb = true then pos - x.bk else 0
/-- The reader behind a stream's number and the way back. -/
def RS.oback (s : RS) (pos : Int) : RS := if s.vint.1.vint.1.code = 0 ∧ pos < s.vint.1.vint.2 then s.vint.1.vint.1.fail 3 s.vint.1.at_ else s.vint.1.vint.1
def oldV (s : RS) (pos : Int) (d : List Int) : O1 := if 0 < s.vint.1.vint.2 ∧ (s.oback pos).code = 0 then ⟨s.vint.2, pos - s.vint.1.vint.2, true, d⟩ else ⟨s.vint.2, 0, false, d⟩
structure oldNx (base : Int) (acc : List O1) (x : O1) : Prop where
  s0 : 0 ≤ x.st
  s1 : x.st < 18446744073709551616
  b0 : 0 ≤ x.bk
  good : goodO (base + acc.length) x = true
  data : Bys x.data
  sum : sumO acc + x.data.length ≤ 1048576
  pos : base + acc.length < 4611686018427387904
def oldF (base : Int) : Fmt O1 := ⟨fun s acc => if base + acc.length < 4611686018427387904 then (((s.oback (base + acc.length)).blob (1048576 - sumO acc)).1, oldV s (base + acc.length) ((s.oback (base + acc.length)).blob (1048576 - sumO acc)).2) else (s.fail 3 0, o10),
  fun acc x => vb x.st ++ (vb (backO (base + acc.length) x) ++ blobB x.data), fun acc x => oldNx base acc x⟩
def RS.cnt (s : RS) (base least most : Int) : RS × Int := if (s.int most).1.code = 0 ∧ ((s.int most).2 < least ∨ fitsB base (s.int most).2 = false) then ((s.int most).1.fail 3 s.at_, (s.int most).2) else s.int most
def RS.olds (s : RS) (base : Int) : RS × List O1 := (oldF base).many (s.cnt base 0 400).2.toNat (s.cnt base 0 400).1 []
theorem cnt_keep {s : RS} (h : ROk s) (base least most : Int) : ROk (s.cnt base least most).1 ∧ (s.cnt base least most).1.l = s.l := by
  obtain ⟨a, b⟩ := h.int most
  unfold RS.cnt
  split
  · exact ⟨a.fail _ _, by simp only; rw [fail_l]; exact b⟩
  · exact ⟨a, b⟩
end Go.Proofs.Ytnfagphepkeedaa
end
section
namespace Go.Proofs.Ytnfagphepkeedaa

end Go.Proofs.Ytnfagphepkeedaa
end
section
namespace Go.Proofs.Ytnfagphepkeedaa

def Fa (s : RS) : Prop := 0 ≤ s.fat ∧ s.fat ≤ s.l.length
theorem Fa.new (l : List Int) : Fa (RS.new l) := ⟨Int.le_refl _, by show (0 : Int) ≤ _; omega⟩
theorem Fa.fail {s : RS} (h : Fa s) {c a : Int} (a0 : 0 ≤ a) (a1 : a ≤ s.l.length) : Fa (s.fail c a) := by
  unfold RS.fail
  split
  · unfold flt
    split
    · exact ⟨Int.le_refl _, by show (0 : Int) ≤ _; omega⟩
    · exact ⟨a0, a1⟩
  · exact h
theorem Fa.skip {s : RS} (h : Fa s) (hs : ROk s) (n : Int) : Fa (s.skip n).1 := by
  have h0 := hs.at0
  have h1 := hs.at1
  unfold RS.skip
  repeat' split
  · exact h.fail h0 h1
  · exact h.fail (by omega) (by omega)
  · exact h
  · exact h
theorem Fa.take {s : RS} (h : Fa s) (hs : ROk s) (n : Int) : Fa (s.take n).1 := by
  unfold RS.take
  split <;> exact h.skip hs n
theorem vgo_ge : ∀ (l : List Int) (n : Int), n ≤ (vgo n l).2.1 := by
  intro l
  induction l with
  | nil => intro n; unfold vgo; exact Int.le_refl _
  | cons c t ih =>
    intro n
    unfold vgo
    repeat' split
    · exact Int.le_refl _
    · exact Int.le_refl _
    · show n ≤ n + 1; omega
    · have := ih (n + 1); show n ≤ (vgo (n + 1) t).2.1; omega
    · have := ih (n + 1); show n ≤ (vgo (n + 1) t).2.1; omega
theorem Fa.vint {s : RS} (h : Fa s) (hs : ROk s) : Fa s.vint.1 := by
  have hk := hs.vint.1
  have h0 := hs.at0
  have hg := vgo_ge s.rest 0
  unfold RS.vint at hk ⊢
  by_cases hc : s.code = 0
  · rw [if_pos hc] at hk ⊢
    by_cases hv : (vgo 0 s.rest).1 = 0
    · rw [if_pos hv]; exact h
    · rw [if_neg hv] at hk ⊢
      by_cases h1 : (vgo 0 s.rest).1 = 1
      · rw [if_pos h1]; exact ⟨by show (0 : Int) ≤ (s.l.length : Int); omega, Int.le_refl _⟩
      · rw [if_neg h1] at hk ⊢
        have := hk.at1
        simp only at this
        exact ⟨by show 0 ≤ s.at_ + (vgo 0 s.rest).2.1; omega, by show s.at_ + (vgo 0 s.rest).2.1 ≤ (s.l.length : Int); omega⟩
  · rw [if_neg hc]; exact h
theorem Fa.int {s : RS} (h : Fa s) (hs : ROk s) (m : Int) : Fa (s.int m).1 := by
  have hv := h.vint hs
  have hl := hs.vint.2
  have h0 := hs.at0
  have h1 := hs.at1
  have hf : Fa (s.vint.1.fail 2 s.at_) := hv.fail h0 (by rw [hl]; exact h1)
  unfold RS.int RS.most
  repeat' split
  · exact hf
  · exact hv
  · exact hf
theorem Fa.blob {s : RS} (h : Fa s) (hs : ROk s) (m : Int) : Fa (s.blob m).1 := (h.int hs m).take (hs.int m).1 _
theorem Fa.frame {s : RS} (h : Fa s) (hs : ROk s) (m : Int) : Fa (s.frame m).1 := by
  have hb := h.blob hs (mfr m)
  obtain ⟨kb, lb⟩ := RS.ok.blob hs (mfr m)
  have hf : Fa ((s.blob (mfr m)).1.fixed 4).1 := hb.take kb 4
  obtain ⟨kf, lf⟩ := fixed_keep kb 4
  unfold RS.frame
  repeat' split
  · exact hf
  · exact hf.fail kb.at0 (by rw [lf]; exact kb.at1)
  · exact hf
theorem Fa.epo {s : RS} (h : Fa s) (hs : ROk s) (ok : Int → Bool) : Fa (s.epo ok).1 := by
  have hv := h.vint hs
  have hl := hs.vint.2
  unfold RS.epo
  repeat' split
  · exact hv
  · exact hv.fail hs.at0 (by rw [hl]; exact hs.at1)
  · exact hv
end Go.Proofs.Ytnfagphepkeedaa
end
section
namespace Go.Proofs.Ytnfagphepkeedaa

instance : DecidableEq En := fun a b => decidable_of_iff (a.lk = b.lk ∧ a.data = b.data) ⟨fun ⟨h1, h2⟩ => by cases a; cases b; simp only at h1 h2; rw [h1, h2], fun h => by subst h; exact ⟨rfl, rfl⟩⟩
/-- A batch. -/
structure Bt where
  ep : Int
  base : Int
  en : List En
  deriving DecidableEq
def bt0 : Bt := ⟨0, 0, []⟩
structure Bt.ok (b : Bt) : Prop where
  e0 : 0 ≤ b.ep
  e1 : b.ep < 18446744073709551616
  b0 : 0 ≤ b.base
  b1 : b.base < 18446744073709551616
  en : Ens b.en
def singleL (l : List Lk) : Bool := l.all fun x => decide (x.bk.length ≤ 1)
def singleB (b : Bt) : Bool := b.en.all fun e => singleL e.lk
def fitsN (base n : Int) : Bool := decide (1 ≤ n ∧ n ≤ 16) && fitsB base n
/-- Is a batch well-formed? -/
def rightB (b : Bt) : Bool := epRight b.ep && fitsN b.base b.en.length && decide ((joinE b.en).length ≤ 1048576) && (List.range b.en.length).all fun i => rightE (b.base + i) (b.en.getD i en0)
/-- The reader behind links of one entry ahead at most. -/
def RS.lsing (s : RS) (pos : Int) : RS := if (s.links pos).1.code = 0 ∧ singleL (s.links pos).2 = false then (s.links pos).1.fail 3 s.at_ else (s.links pos).1
structure entNx (base : Int) (acc : List En) (e : En) : Prop where
  lk : Lks e.lk
  rt : rightL (base + acc.length) e.lk = true
  sg : singleL e.lk = true
  data : Bys e.data
  sum : ((joinE acc).length : Int) + e.data.length ≤ 1048576
  pos : base + acc.length < 4611686018427387904
def entF (base : Int) : Fmt En := ⟨fun s acc => if base + acc.length < 4611686018427387904 then (((s.lsing (base + acc.length)).blob (1048576 - (joinE acc).length)).1, ⟨(s.links (base + acc.length)).2, ((s.lsing (base + acc.length)).blob (1048576 - (joinE acc).length)).2⟩) else (s.fail 3 0, en0),
  fun acc e => linksB (base + acc.length) e.lk ++ blobB e.data, fun acc e => entNx base acc e⟩
theorem lsing_keep {s : RS} (h : ROk s) {pos : Int} (p0 : 0 ≤ pos) (p1 : pos < 18446744073709551616) : ROk (s.lsing pos) ∧ (s.lsing pos).l = s.l := by
  obtain ⟨a, b⟩ := links_keep h p0 p1
  unfold RS.lsing
  split
  · exact ⟨a.fail _ _, by rw [fail_l]; exact b⟩
  · exact ⟨a, b⟩
/-- The reader behind a batch that is all, and that. -/
def RS.ents (s : RS) (base : Int) : RS × List En := (entF base).many (s.cnt base 1 16).2.toNat (s.cnt base 1 16).1 []
def RS.unpl (s : RS) : RS × Bt := ((((s.epo epRight).1.epo epPos).1.ents ((s.epo epRight).1.epo epPos).2).1.rest9, ⟨(s.epo epRight).2, ((s.epo epRight).1.epo epPos).2, (((s.epo epRight).1.epo epPos).1.ents ((s.epo epRight).1.epo epPos).2).2⟩)
theorem epo_range {s : RS} (h : ROk s) (ok : Int → Bool) : 0 ≤ (s.epo ok).2 ∧ (s.epo ok).2 < 18446744073709551616 := by
  by_cases hc : (s.epo ok).1.code = 0
  · obtain ⟨_, a, b, _⟩ := epo_is h hc; exact ⟨a, b⟩
  · rw [epo_bad hc]; exact ⟨by decide, by decide⟩
theorem Fa.many {β : Type} {F : Fmt β} (hF : ∀ s acc, Fa s → ROk s → Fa (F.f s acc).1 ∧ ROk (F.f s acc).1) : ∀ (N : Nat) (s : RS) (acc : List β), Fa s → ROk s → Fa (F.many N s acc).1 ∧ ROk (F.many N s acc).1 := by
  intro N
  induction N with
  | zero => intro s acc h k; exact ⟨h, k⟩
  | succ N ih =>
    intro s acc h k
    obtain ⟨a, b⟩ := hF s acc h k
    simp only [Fmt.many]
    split
    · exact ih _ _ a b
    · exact ⟨a, b⟩
theorem Fa.at {s : RS} (h : Fa s) (hs : ROk s) {c : Int} {t : RS} (hl : t.l = s.l) (ht : ROk t) : Fa (s.fail c t.at_) := h.fail ht.at0 (by rw [← hl]; exact ht.at1)
theorem Fa.fall {s : RS} (h : Fa s) (hs : ROk s) (b m : Int) : Fa (s.fall b m).1 := by
  refine (Fa.many (F := fallF b) (fun s acc h hs => ?_) _ _ _ (h.int hs m) (hs.int m).1).1
  simp only [fallF]
  have hv := hs.vint
  split
  · exact ⟨(h.vint hs).at hv.1 hv.2.symm hs, hv.1.fail _ _⟩
  · exact ⟨h.vint hs, hv.1⟩
theorem Fa.links {s : RS} (h : Fa s) (hs : ROk s) {pos : Int} (p1 : pos < 18446744073709551616) : Fa (s.links pos).1 := by
  refine (Fa.many (F := linkF pos) (fun s acc h hs => ?_) _ _ _ (h.int hs 16) (hs.int 16).1).1
  simp only [linkF]
  have hv := hs.vint
  have hh : Fa (s.lkHead acc) ∧ ROk (s.lkHead acc) := by
    unfold RS.lkHead
    split
    · exact ⟨(h.vint hs).at hv.1 hv.2.symm hs, hv.1.fail _ _⟩
    · exact ⟨h.vint hs, hv.1⟩
  exact ⟨hh.1.fall hh.2 pos 4, (fall_keep hh.2 p1 4).1⟩
theorem Fa.cnt {s : RS} (h : Fa s) (hs : ROk s) (base least most : Int) : Fa (s.cnt base least most).1 := by
  have hi := hs.int most
  unfold RS.cnt
  split
  · exact (h.int hs most).at hi.1 hi.2.symm hs
  · exact h.int hs most
theorem Fa.lsing {s : RS} (h : Fa s) (hs : ROk s) {pos : Int} (p0 : 0 ≤ pos) (p1 : pos < 18446744073709551616) : Fa (s.lsing pos) := by
  have hk := links_keep hs p0 p1
  unfold RS.lsing
  split
  · exact (h.links hs p1).at hk.1 hk.2.symm hs
  · exact h.links hs p1
theorem Fa.rest9 {s : RS} (h : Fa s) (hs : ROk s) : Fa s.rest9 := by
  unfold RS.rest9
  split
  · exact h.at hs rfl hs
  · exact h
theorem Fa.ents {s : RS} (h : Fa s) (hs : ROk s) {base : Int} (b0 : 0 ≤ base) : Fa (s.ents base).1 ∧ ROk (s.ents base).1 := by
  have hc := cnt_keep hs base 1 16
  refine Fa.many (F := entF base) (fun s acc h hs => ?_) (s.cnt base 1 16).2.toNat (s.cnt base 1 16).1 [] (h.cnt hs base 1 16) hc.1
  simp only [entF]
  split
  · rename_i hp
    have k := lsing_keep hs (pos := base + acc.length) (by omega) (by omega)
    exact ⟨Fa.blob (Fa.lsing h hs (by omega) (by omega)) k.1 _, (RS.ok.blob k.1 _).1⟩
  · exact ⟨h.fail (Int.le_refl 0) (by omega), hs.fail _ _⟩
theorem Fa.unpl {s : RS} (h : Fa s) (hs : ROk s) : Fa s.unpl.1 := by
  obtain ⟨a, b⟩ := epo_keep hs epRight
  obtain ⟨c, d⟩ := epo_keep a epPos
  have f4 := ((h.epo hs epRight).epo a epPos).ents c (epo_range a epPos).1
  exact f4.1.rest9 f4.2
-- segments of the version 2
structure Sg2 where
  ep : Int
  bt : List Bt
  deriving DecidableEq
def btLast (acc : List Bt) : Bt := acc.getD (acc.length - 1) bt0
/-- May a batch stand behind others? -/
def mayB (ep : Int) (acc : List Bt) (b : Bt) : Bool := decide (b.ep ≤ ep) && (decide (acc.length = 0) || (decide ((btLast acc).ep ≤ b.ep) && decide ((btLast acc).base + (btLast acc).en.length ≤ b.base)))
/-- The reader behind the frame of a batch, and that. -/
def RS.bat (s : RS) (ep : Int) (acc : List Bt) : RS × Bt :=
  if (s.frame 2097152).1.code = 0 then
    (if (RS.new (s.frame 2097152).2).unpl.1.code = 0 then
      (if mayB ep acc (RS.new (s.frame 2097152).2).unpl.2 = true then ((s.frame 2097152).1, (RS.new (s.frame 2097152).2).unpl.2) else ((s.frame 2097152).1.fail 13 s.at_, (RS.new (s.frame 2097152).2).unpl.2))
    else ((s.frame 2097152).1.fail (RS.new (s.frame 2097152).2).unpl.1.code ((s.frame 2097152).1.at_ - 4 - (s.frame 2097152).2.length + (RS.new (s.frame 2097152).2).unpl.1.fat), (RS.new (s.frame 2097152).2).unpl.2))
  else ((s.frame 2097152).1, bt0)
structure batNx (ep : Int) (acc : List Bt) (b : Bt) : Prop where
  ok : b.ok
  rt : rightB b = true
  sg : singleB b = true
  may : mayB ep acc b = true
end Go.Proofs.Ytnfagphepkeedaa
end
section
namespace Go.Proofs.Ytnfagphepkeedaa
open Go.RowKit Go.ChangeShapes Go.WideShapes Go.ChangeAt

/-- All cells of a world lie still. -/
def G0 (W : World) : Gh := ⟨fun b i => W.cell? ⟨b, i, none⟩, fun _ => none, fun _ _ => none⟩
theorem wd0 (W : World) : Wd (G0 W) [] W :=
  ⟨fun b i v h => h, fun i _ => ⟨rfl, fun _ => rfl⟩, fun i xs h => by simp at h, fun j k n h => by simp at h, fun j k n xs h => by simp at h, fun i j b h => by simp [blk] at h⟩
theorem Does.top {P : Program} {f : FuncId} {args : List AV} (h : Does P f args [] (.lit (.bool true)) []) {W : World} {vs : Array Value} (hr : RepL (G0 W) args vs.toList) :
    Calls P f vs W fun r W' => r = .returned (.bool true) ∧ Below W.heap.size W W' := by
  refine (h.2 (G0 W) W vs (wd0 W) hr).mono fun r W' ⟨v, G', e, hv, hl⟩ => ?_
  cases hv
  exact ⟨e, hl.kept.below (fun i _ j => by simp [blk]) (Nat.le_refl _)⟩
theorem RdI.rep {k : IntKind} {W : World} {F : Nat → Prop} {v : Value} {l : List Int} (h : RdI k W F v l) : Rep (G0 W) (.sl .none 1 (ints k l)) v := by
  obtain ⟨A, c, rfl, hc, _, hA⟩ := h
  have hlen := ints_length k l
  obtain ⟨b, o, hb, hcell⟩ : ∃ b o, (0 < l.length → A = some ⟨b, o, none⟩) ∧ ∀ i, i < l.length → W.cell? ⟨b, o + i, none⟩ = some (.int k (l.getD i 0)) := by
    rcases Nat.eq_zero_or_pos l.length with h0 | h0
    · exact ⟨0, 0, fun h => by omega, fun i hi => by omega⟩
    · obtain ⟨b, o, h1, _, h2⟩ := hA h0
      exact ⟨b, o, fun _ => h1, h2⟩
  rw [← hlen]
  refine .sl (b := b) (o := o) (fun i _ => .int k (l.getD i 0)) (by rw [hlen]; exact hc) (fun h => hb (by rw [hlen] at h; exact h)) (fun i x hx => ?_) (fun i j hi hj => ?_) (fun _ _ _ _ => rfl) (fun i j x y hx hy => ?_) trivial
  · simp only [ints, List.getElem?_map, Option.map_eq_some_iff] at hx
    obtain ⟨z, _, rfl⟩ := hx; rfl
  · obtain rfl : j = 0 := by omega
    rw [hlen] at hi
    simpa [G0] using hcell i hi
  · simp only [ints, List.getElem?_map, Option.map_eq_some_iff] at hx
    obtain ⟨z, hz, rfl⟩ := hx
    simp only [AV.cells] at hy
    cases j with
    | zero =>
      simp at hy; subst hy
      have : l.getD i 0 = z := by simp [hz]
      rw [this]; exact .lit _
    | succ j => simp at hy
end Go.Proofs.Ytnfagphepkeedaa
end
section
namespace Go.Proofs.Ytnfagphepkeedaa
open Go.RowKit

end Go.Proofs.Ytnfagphepkeedaa
end
section
namespace Go.Proofs.Ytnfagphepkeedaa
open Go.RowKit

/-- An entry. -/
abbrev enA (e : En) : AV := .agg [slL e.lk, slA .u8 e.data]
def smallE (e : En) : Prop := Smalls e.lk ∧ e.data.length ≤ 100000000
end Go.Proofs.Ytnfagphepkeedaa
end
section
namespace Go.Proofs.Ytnfagphepkeedaa
open Go.RowKit

def ens (l : List En) : List AV := l.map enA
abbrev slE (l : List En) : AV := .sl .none 2 (ens l)
@[simp] theorem ren_ens (ρ : Nat → Nat) (l : List En) : (ens l).map (fun x => x.ren ρ) = ens l := by
  simp [ens, Function.comp_def, ixs_z, ren_ints, ren_lks]
end Go.Proofs.Ytnfagphepkeedaa
end
section
namespace Go.Proofs.Ytnfagphepkeedaa
open Go.RowKit

end Go.Proofs.Ytnfagphepkeedaa
end
section
section
namespace Go.Proofs.Ytnfagphepkeedaa
open Go.RowKit

end Go.Proofs.Ytnfagphepkeedaa
end
end
section
section
namespace Go.Proofs.Ytnfagphepkeedaa

structure Tk where
  lit : List Int
  off : Int
  len : Int
deriving DecidableEq
def Tk.run (t : Tk) : Bool := decide (t.off = 0 ∧ t.len = 0 ∧ 1 ≤ t.lit.length ∧ t.lit.length ≤ 1048576)
def Tk.copy (t : Tk) : Bool := decide (t.lit.length = 0 ∧ 1 ≤ t.off ∧ t.off ≤ 65536 ∧ 4 ≤ t.len ∧ t.len ≤ 1048576)
def Tk.right (t : Tk) : Bool := t.run || t.copy
def Tk.made (t : Tk) : Int := if t.run = true then t.lit.length else if t.copy = true then t.len else 0
/-- What a token in memory is: its bytes are bytes, its numbers fit. -/
structure Tk.ok (t : Tk) : Prop where
  lit : Bys t.lit
  off0 : -9223372036854775808 ≤ t.off
  off1 : t.off < 9223372036854775808
  len0 : -9223372036854775808 ≤ t.len
  len1 : t.len < 9223372036854775808
end Go.Proofs.Ytnfagphepkeedaa
end
end
section
namespace Go.Proofs.Ytnfagphepkeedaa

section
variable {β : Type} {F : Fmt β}
/-- Things read till nothing is left, or one can't be read. -/
def Fmt.all (F : Fmt β) : Nat → RS → List β → RS × List β
  | 0, s, acc => (s, acc)
  | n + 1, s, acc => if s.code = 0 ∧ 0 < s.left then (if (F.f s acc).1.code = 0 then F.all n (F.f s acc).1 (acc ++ [(F.f s acc).2]) else ((F.f s acc).1, [])) else (s, acc)
theorem left_ge {s : RS} (h : ROk s) : 0 ≤ s.left := by have := h.at1; unfold RS.left; omega
theorem all_done {n : Nat} {s : RS} {acc : List β} (h : ¬ (s.code = 0 ∧ 0 < s.left)) : F.all n s acc = (s, acc) := by
  cases n with
  | zero => rfl
  | succ n => rw [Fmt.all, if_neg h]
theorem all_more (hF : F.Ok) : ∀ (n m : Nat) (s : RS) (acc : List β), ROk s → Wf F.nx [] acc → s.left ≤ n → s.left ≤ m → F.all n s acc = F.all m s acc := by
  intro n
  induction n with
  | zero => intro m s acc h _ h1 h2; rw [all_done (n := m) (by omega)]; rfl
  | succ n ih =>
    intro m s acc h hw h1 h2
    by_cases hc : s.code = 0 ∧ 0 < s.left
    · obtain ⟨k, rfl⟩ : ∃ k, m = k + 1 := ⟨m - 1, by omega⟩
      rw [Fmt.all, Fmt.all, if_pos hc, if_pos hc]
      by_cases hn : (F.f s acc).1.code = 0
      · rw [if_pos hn, if_pos hn]
        obtain ⟨k1, k2⟩ := hF.keep s acc h hw
        obtain ⟨r1, r2, r3, r4⟩ := hF.read s acc h hw hn
        have hl : (F.f s acc).1.left < s.left := by unfold RS.left; rw [k2]; omega
        exact ih k _ _ k1 (wf_snoc.2 ⟨hw, by simpa using r2⟩) (by omega) (by omega)
      · rw [if_neg hn, if_neg hn]
    · rw [all_done hc, all_done hc]
/-- All that is left. -/
def Fmt.rest (F : Fmt β) (s : RS) (acc : List β) : RS × List β := F.all s.left.toNat s acc
theorem rest_step (hF : F.Ok) {s : RS} {acc : List β} (h : ROk s) (hw : Wf F.nx [] acc) (hc : s.code = 0) (hl : 0 < s.left) (hn : (F.f s acc).1.code = 0) : F.rest s acc = F.rest (F.f s acc).1 (acc ++ [(F.f s acc).2]) := by
  obtain ⟨k1, k2⟩ := hF.keep s acc h hw
  obtain ⟨r1, r2, r3, r4⟩ := hF.read s acc h hw hn
  have hl2 : (F.f s acc).1.left < s.left := by unfold RS.left; rw [k2]; omega
  have hge := left_ge k1
  unfold Fmt.rest
  obtain ⟨k, hk⟩ : ∃ k, s.left.toNat = k + 1 := ⟨s.left.toNat - 1, by omega⟩
  rw [hk, Fmt.all, if_pos ⟨hc, hl⟩, if_pos hn]
  exact all_more hF _ _ _ _ k1 (wf_snoc.2 ⟨hw, by simpa using r2⟩) (by omega) (by omega)
/-- What is borne at each round. -/
structure Fmt.Al (F : Fmt β) (s : RS) (a : RS × List β) : Prop where
  ok : ROk a.1
  l : a.1.l = s.l
  adv : (a.2.length : Int) ≤ a.1.at_
  code : a.1.code = 0
  wf : Wf F.nx [] a.2
  res : F.rest a.1 a.2 = F.rest s []
  byt : s.l.take a.1.at_.toNat = s.l.take s.at_.toNat ++ encs F.enc [] a.2
theorem Fmt.Al.next {s t : RS} {acc : List β} (hF : F.Ok) (h : F.Al s (t, acc)) (hl : 0 < t.left) (hc : (F.f t acc).1.code = 0) : F.Al s ((F.f t acc).1, acc ++ [(F.f t acc).2]) ∧ (F.f t acc).1.left < t.left := by
  obtain ⟨h1, h2, h3, h4, h5, h6, h7⟩ := h
  simp only at h1 h2 h3 h4 h5 h6 h7
  obtain ⟨k1, k2⟩ := hF.keep t acc h1 h5
  obtain ⟨r1, r2, r3, r4⟩ := hF.read t acc h1 h5 hc
  refine ⟨⟨k1, k2.trans h2, by simp; omega, hc, wf_snoc.2 ⟨h5, by simpa using r2⟩, ?_, ?_⟩, by unfold RS.left; rw [k2]; omega⟩
  · rw [← h6]; exact (rest_step hF h1 h5 h4 hl hc).symm
  · rw [h2] at r4
    rw [r4, h7, encs_snoc]
    simp
theorem Fmt.Al.len {s t : RS} {acc : List β} (h : F.Al s (t, acc)) : acc.length ≤ s.l.length := by
  have h1 := h.ok.at1
  have h2 := h.l
  have h3 := h.adv
  simp only at h1 h2 h3
  rw [h2] at h1
  omega
end

end Go.Proofs.Ytnfagphepkeedaa
end
section
namespace Go.Proofs.Ytnfagphepkeedaa
open Go.RowKit

/-- A token, tokens. -/
abbrev tkA (t : Tk) : AV := .agg [slA .u8 t.lit, iA t.off, iA t.len]
def tks (l : List Tk) : List AV := l.map tkA
@[simp] theorem ren_tks (ρ : Nat → Nat) (l : List Tk) : (tks l).map (fun x => x.ren ρ) = tks l := by simp [tks, ixs_z]
@[simp] theorem ren_ints_t (ρ : Nat → Nat) (k : IntKind) (l : List Int) : (ints k l).map (fun x => x.ren ρ) = ints k l := ren_ints ρ k l
end Go.Proofs.Ytnfagphepkeedaa
end
section
namespace Go.Proofs.Ytnfagphepkeedaa
open Go.RowKit

end Go.Proofs.Ytnfagphepkeedaa
end
section
namespace Go.Proofs.Ytnfagphepkeedaa

end Go.Proofs.Ytnfagphepkeedaa
end
section
namespace Go.Proofs.Ytnfagphepkeedaa
open Go.RowKit

end Go.Proofs.Ytnfagphepkeedaa
end
section
namespace Go.Proofs.Ytnfagphepkeedaa
open Go.RowKit

end Go.Proofs.Ytnfagphepkeedaa
end
section
namespace Go.Proofs.Ytnfagphepkeedaa
open Go.RowKit

end Go.Proofs.Ytnfagphepkeedaa
end
section
namespace Go.Proofs.Ytnfagphepkeedaa
open Go.RowKit

abbrev oA (x : O1) : AV := .agg [uA x.st, uA x.bk, bA x.hb, slA .u8 x.data]
def o1s (l : List O1) : List AV := l.map oA
@[simp] theorem ren_o1s (ρ : Nat → Nat) (l : List O1) : (o1s l).map (fun x => x.ren ρ) = o1s l := by
  simp [o1s, Function.comp_def, ixs_z, ren_ints]
structure Small1 (u : Sg1) : Prop where
  b0 : 0 ≤ u.base
  b1 : u.base < 18446744073709551616
  n : u.en.length ≤ 1000000
  s : sumO u.en ≤ 100000000000
end Go.Proofs.Ytnfagphepkeedaa
end
section
namespace Go.Proofs.Ytnfagphepkeedaa
open Go.RowKit

end Go.Proofs.Ytnfagphepkeedaa
end
section
namespace Go.Proofs.Ytnfagphepkeedaa
variable {P : Program} {S : List AObj} {K : KT} {f : FuncId} {args args₀ : List AV}

end Go.Proofs.Ytnfagphepkeedaa
end
section
namespace Go.Proofs.Ytnfagphepkeedaa
open Go.RowKit

abbrev wA (n : Nat) : AV := .lit (.int .u32 (n : Int))
/-- What each half of a byte makes of the state, as far as it is filled in. -/
def tabN (k : Nat) : List AV := (List.range 16).map fun i => wA (if i < k then csteps 4 i else 0)
@[simp] theorem tabN_ren (ρ : Nat → Nat) (k : Nat) : (tabN k).map (fun x => x.ren ρ) = tabN k := by simp [tabN, ixs_z]
def tab : List AV := tabN 16
@[simp] theorem tab_ren (ρ : Nat → Nat) : tab.map (fun x => x.ren ρ) = tab := tabN_ren ρ 16
end Go.Proofs.Ytnfagphepkeedaa
end
section
namespace Go.Proofs.Ytnfagphepkeedaa
open Go.RowKit

/-- A writer behind a frame. -/
def WS.frame (s : WS) (p : List Int) : WS := if 2097152 < (p.length : Int) then s.fail 2 else ((s.put (vb p.length)).put p).put (lowBytes 4 (crcI p))
theorem WS.fine.frame {s : WS} (h : s.fine) (p : List Int) : (s.frame p).fine := by
  unfold WS.frame
  split
  · exact h.fail 2
  · exact ((h.put _).put _).put _
end Go.Proofs.Ytnfagphepkeedaa
end
section
namespace Go.Proofs.Ytnfagphepkeedaa
open Go.RowKit

end Go.Proofs.Ytnfagphepkeedaa
end
section
namespace Go.Proofs.Ytnfagphepkeedaa
open Go.RowKit

end Go.Proofs.Ytnfagphepkeedaa
end
section
namespace Go.Proofs.Ytnfagphepkeedaa
open Go.RowKit

end Go.Proofs.Ytnfagphepkeedaa
end
section
namespace Go.Proofs.Ytnfagphepkeedaa
open Go.RowKit

end Go.Proofs.Ytnfagphepkeedaa
end
section
namespace Go.Proofs.Ytnfagphepkeedaa
open Go.RowKit

theorem ROk.rest9 {s : RS} (h : ROk s) : ROk s.rest9 := by
  unfold RS.rest9; split
  · exact h.fail _ _
  · exact h
end Go.Proofs.Ytnfagphepkeedaa
end
section
namespace Go.Proofs.Ytnfagphepkeedaa
open Go.RowKit

end Go.Proofs.Ytnfagphepkeedaa
end
section
namespace Go.Proofs.Ytnfagphepkeedaa
open Go.RowKit

end Go.Proofs.Ytnfagphepkeedaa
end
section
namespace Go.Proofs.Ytnfagphepkeedaa
open Go.RowKit

end Go.Proofs.Ytnfagphepkeedaa
end
section
namespace Go.Proofs.Ytnfagphepkeedaa
open Go.RowKit

end Go.Proofs.Ytnfagphepkeedaa
end
section
namespace Go.Proofs.Ytnfagphepkeedaa
open Go.RowKit

end Go.Proofs.Ytnfagphepkeedaa
end
section
namespace Go.Proofs.Ytnfagphepkeedaa
open Go.RowKit

section
variable {P : Program} {S : List AObj} {K : KT} {f : FuncId} {args args₀ : List AV}
end
end Go.Proofs.Ytnfagphepkeedaa
end
section
namespace Go.Proofs.Ytnfagphepkeedaa
open Go.RowKit

end Go.Proofs.Ytnfagphepkeedaa
end
section
namespace Go.Proofs.Ytnfagphepkeedaa
open Go.RowKit

end Go.Proofs.Ytnfagphepkeedaa
end
section
namespace Go.Proofs.Ytnfagphepkeedaa
open Go.RowKit

abbrev btA (b : Bt) : AV := .agg [uA b.ep, uA b.base, slE b.en]
def bts (l : List Bt) : List AV := l.map btA
@[simp] theorem ren_bts (ρ : Nat → Nat) (l : List Bt) : (bts l).map (fun x => x.ren ρ) = bts l := by
  simp [bts, Function.comp_def, ixs_z, ren_ints, ren_ens]
structure SmallB (b : Bt) : Prop where
  n : b.en.length ≤ 1000000
  e : ∀ e ∈ b.en, smallE e
  s : (joinE b.en).length ≤ 100000000
theorem SmallB.lk {b : Bt} (h : SmallB b) : ∀ e ∈ b.en, Smalls e.lk := fun e he => (h.e e he).1
end Go.Proofs.Ytnfagphepkeedaa
end
section
namespace Go.Proofs.Ytnfagphepkeedaa
open Go.RowKit

theorem ext_small {x : Lk} {pos : Int} : (extL x pos).bk.length ≤ 1000000 := by unfold extL; simp; omega
end Go.Proofs.Ytnfagphepkeedaa
end
section
namespace Go.Proofs.Ytnfagphepkeedaa
open Go.RowKit

theorem falls_up {b c : Int} {l : List Int} (h : falls b l = true) (hc : b ≤ c) : falls c l = true := by
  rw [falls_iff] at h ⊢
  intro i hi
  have := h i hi
  split at this
  · rename_i h0; rw [if_pos h0]; omega
  · rename_i h0; rw [if_neg h0]; exact this
theorem falls_one {b p : Int} {l : List Int} (hp : p < b) (h : falls p l = true) : falls b (p :: l) = true := by
  rw [falls_iff] at h ⊢
  intro i hi
  cases i with
  | zero => simpa using hp
  | succ i =>
    have := h i (by simpa using hi)
    rw [if_neg (by omega)]
    cases i with
    | zero => simpa using this
    | succ i => rw [if_neg (by omega)] at this; simpa using this
theorem falls_take {b : Int} {l : List Int} (h : falls b l = true) (n : Nat) : falls b (l.take n) = true := by
  rw [falls_iff] at h ⊢
  intro i hi
  have hi' : i < l.length ∧ i < n := by simp at hi; omega
  have e : ∀ j, j ≤ i → (l.take n).getD j 0 = l.getD j 0 := fun j hj => by
    simp only [List.getD_eq_getElem?_getD, List.getElem?_take]; rw [if_pos (by omega)]
  have := h i hi'.1
  rw [e i (Nat.le_refl _)]
  split at this
  · rename_i h0; rw [if_pos h0]; exact this
  · rename_i h0; rw [if_neg h0, e (i - 1) (by omega)]; exact this
theorem rightL_up {p q : Int} {l : List Lk} (h : rightL p l = true) (hq : p ≤ q) : rightL q l = true := by
  rw [rightL_iff] at h ⊢
  refine ⟨h.1, h.2.1, fun x hx => ?_⟩
  have := goodL_iff.1 (h.2.2 x hx)
  exact goodL_iff.2 ⟨this.1, falls_up this.2 hq⟩
/-- Links each of which is extended. -/
def extsL (l : List Lk) (pos : Int) : List Lk := l.map fun x => extL x pos
theorem extsL_get (l : List Lk) (pos : Int) (k : Nat) (h : k < l.length) : (extsL l pos).getD k lk0 = extL (l.getD k lk0) pos := by simp [extsL, h]
/-- One that is of a greater stream than all comes behind them. -/
theorem with_last {l : List Lk} {x : Lk} (h : ∀ y ∈ l, y.st < x.st) : withL l x = l ++ [x] := by
  have h1 : findL l x.st = l.length := fidx_no fun y hy => by have := h y hy; simp; omega
  have h2 : (l.findIdx fun y => decide (x.st < y.st)) = l.length := fidx_no fun y hy => by have := h y hy; simp; omega
  unfold withL
  rw [if_neg (by omega), h2]
  simp
theorem risesL_lt {l : List Lk} (h : risesL l = true) : ∀ (k : Nat), k < l.length → ∀ y ∈ l.take k, y.st < (l.getD k lk0).st := by
  rw [risesL_iff] at h
  intro k
  induction k with
  | zero => intro _ y hy; simp at hy
  | succ k ih =>
    intro hk y hy
    have h1 := h (k + 1) hk (by omega)
    rw [lk_take l k (by omega), List.mem_append, List.mem_singleton] at hy
    simp only [Nat.add_sub_cancel] at h1
    rcases hy with hy | rfl
    · have := ih (by omega) y hy; omega
    · exact h1
theorem with_ext {l : List Lk} {pos : Int} (h : risesL l = true) (k : Nat) (hk : k < l.length) : withL (extsL (l.take k) pos) (extL (l.getD k lk0) pos) = extsL (l.take (k + 1)) pos := by
  rw [with_last, lk_take l k hk]
  · simp [extsL]
  · intro y hy
    simp only [extsL, List.mem_map] at hy
    obtain ⟨z, hz, rfl⟩ := hy
    exact risesL_lt h k hk z hz
theorem extL_right {p q : Int} {x : Lk} (h : goodL p x = true) (hq : p < q) : goodL q (extL x p) = true := by
  have := goodL_iff.1 h
  refine goodL_iff.2 ⟨by unfold extL; simp; omega, ?_⟩
  unfold extL
  exact falls_take (falls_one hq this.2) 4
theorem exts_rises {l : List Lk} {p : Int} (h : risesL l = true) : risesL (extsL l p) = true := by
  rw [risesL_iff] at h ⊢
  intro i hi h0
  have hi' : i < l.length := by simpa [extsL] using hi
  rw [extsL_get l p i hi', extsL_get l p (i - 1) (by omega)]
  exact h i hi' h0
theorem exts_right {p q : Int} {l : List Lk} (h : rightL p l = true) (hq : p < q) : rightL q (extsL l p) = true := by
  rw [rightL_iff] at h ⊢
  refine ⟨by simpa [extsL] using h.1, exts_rises h.2.1, fun x hx => ?_⟩
  simp only [extsL, List.mem_map] at hx
  obtain ⟨y, hy, rfl⟩ := hx
  exact extL_right (h.2.2 y hy) hq
theorem exts_smalls {l : List Lk} {p : Int} (hl : l.length ≤ 1000000) : Smalls (extsL l p) := ⟨by simpa [extsL] using hl, fun y hy => by
  simp only [extsL, List.mem_map] at hy
  obtain ⟨z, hz, rfl⟩ := hy
  exact ext_small⟩
theorem exts_lks {l : List Lk} {p : Int} (hl : Lks l) (p0 : 0 ≤ p) (p1 : p < 18446744073709551616) : Lks (extsL l p) := fun y hy => by
  simp only [extsL, List.mem_map] at hy
  obtain ⟨z, hz, rfl⟩ := hy
  have h := hl z hz
  refine ⟨h.s0, h.s1, fun v hv => ?_⟩
  have hv' : v ∈ p :: z.bk := List.mem_of_mem_take hv
  rcases List.mem_cons.1 hv' with rfl | hv'
  · exact ⟨p0, p1⟩
  · exact h.b v hv'
set_option maxHeartbeats 1000000 in
set_option maxRecDepth 100000 in
theorem law_LinkLater (pos : Int) (l : List Lk) (by_ : Int) (hl : Lks l) (p0 : 0 ≤ pos) (p1 : pos < 18446744073709551616) (b0 : 0 ≤ by_) (b1 : by_ < 18446744073709551616) : Does Try.prog 4 [uA pos, slL l, uA by_] [] (bA true) [] := by
  refine Does.runA Try.func4 b4 n4 Try.ntmps4 ?_; simp only [c4, go_sem, Nat.reduceAdd, Nat.reduceMul, Int.reduceToNat, Nat.reduceLeDiff, Int.reduceLE, Int.reduceLT, ↓reduceIte, Int.reduceBEq, Int.reduceBNe, Int.reduceAdd, Int.reduceSub, Int.reduceMul]; try refine okTr_and rfl ?_
  refine CallK.p (law23_Long l) ?_
  cases hlg : longL l with
  | true =>
    (simp only [go_sem, Nat.reduceAdd, Nat.reduceMul, Int.reduceToNat, Nat.reduceLeDiff, Int.reduceLE, Int.reduceLT, ↓reduceIte, Int.reduceBEq, Int.reduceBNe, Int.reduceAdd, Int.reduceSub, Int.reduceMul]; try refine okTr_and rfl ?_)
    refine CallK.p (live23) ?_; (simp only [go_sem, Nat.reduceAdd, Nat.reduceMul, Int.reduceToNat, Nat.reduceLeDiff, Int.reduceLE, Int.reduceLT, ↓reduceIte, Int.reduceBEq, Int.reduceBNe, Int.reduceAdd, Int.reduceSub, Int.reduceMul]; try refine okTr_and rfl ?_)
    exact FinK.finA r4 []
  | false =>
    have hm := longL_smalls hlg
    obtain ⟨hl50, _⟩ := longL_no hlg
    (simp only [go_sem, Nat.reduceAdd, Nat.reduceMul, Int.reduceToNat, Nat.reduceLeDiff, Int.reduceLE, Int.reduceLT, ↓reduceIte, Int.reduceBEq, Int.reduceBNe, Int.reduceAdd, Int.reduceSub, Int.reduceMul]; try refine okTr_and rfl ?_)
    refine CallK.p (ref23_Right pos l hm) ?_
    cases hr : rightL pos l with
    | false =>
      (simp only [go_sem, Nat.reduceAdd, Nat.reduceMul, Int.reduceToNat, Nat.reduceLeDiff, Int.reduceLE, Int.reduceLT, ↓reduceIte, Int.reduceBEq, Int.reduceBNe, Int.reduceAdd, Int.reduceSub, Int.reduceMul]; try refine okTr_and rfl ?_)
      refine CallK.p (live23) ?_; (simp only [go_sem, Nat.reduceAdd, Nat.reduceMul, Int.reduceToNat, Nat.reduceLeDiff, Int.reduceLE, Int.reduceLT, ↓reduceIte, Int.reduceBEq, Int.reduceBNe, Int.reduceAdd, Int.reduceSub, Int.reduceMul]; try refine okTr_and rfl ?_)
      exact FinK.finA r4 []
    | true =>
      by_cases ho : 18446744073709551616 ≤ pos + by_
      · have q1 : decide (IntKind.u64.wrap (pos + by_) < pos) = true := by
          refine decide_eq_true ?_
          have : IntKind.u64.wrap (pos + by_) = pos + by_ - 18446744073709551616 := by rw [IntKind.wrap_u64]; omega
          omega
        (simp only [go_sem, Nat.reduceAdd, Nat.reduceMul, Int.reduceToNat, Nat.reduceLeDiff, Int.reduceLE, Int.reduceLT, ↓reduceIte, Int.reduceBEq, Int.reduceBNe, Int.reduceAdd, Int.reduceSub, Int.reduceMul, q1]; try refine okTr_and rfl ?_)
        refine CallK.p (live23) ?_; (simp only [go_sem, Nat.reduceAdd, Nat.reduceMul, Int.reduceToNat, Nat.reduceLeDiff, Int.reduceLE, Int.reduceLT, ↓reduceIte, Int.reduceBEq, Int.reduceBNe, Int.reduceAdd, Int.reduceSub, Int.reduceMul]; try refine okTr_and rfl ?_)
        exact FinK.finA r4 []
      · have w : IntKind.u64.wrap (pos + by_) = pos + by_ := IntWalk.u64_in _ (by omega)
        have q1 : decide (pos + by_ < pos) = false := decide_eq_false (by omega)
        have hr2 := rightL_up (q := pos + by_) hr (by omega)
        obtain ⟨r1, r2, r3⟩ := rightL_iff.1 hr
        have hel : (extsL l pos).length = l.length := by simp [extsL]
        (simp only [go_sem, Nat.reduceAdd, Nat.reduceMul, Int.reduceToNat, Nat.reduceLeDiff, Int.reduceLE, Int.reduceLT, ↓reduceIte, Int.reduceBEq, Int.reduceBNe, Int.reduceAdd, Int.reduceSub, Int.reduceMul, w, q1]; try refine okTr_and rfl ?_)
        refine CallK.p (link_Right (pos + by_) l hl hm (by omega) (by omega)) ?_; (simp only [go_sem, Nat.reduceAdd, Nat.reduceMul, Int.reduceToNat, Nat.reduceLeDiff, Int.reduceLE, Int.reduceLT, ↓reduceIte, Int.reduceBEq, Int.reduceBNe, Int.reduceAdd, Int.reduceSub, Int.reduceMul, hr2]; try refine okTr_and rfl ?_)
        refine loop_of (α := Nat) (fun k => [uA pos, slL l, uA by_, .any, .any, .any, bA false, slL (extsL (l.take k) pos), iA k, .any, .any, .any, .any, .any, .any, .any, .any, .any, .any, .any, .any, .any, .any, .any, .any, .any, .any, .any, .any, .any, .any, .any, .any, .any, .any, .any, .any, .any, .any, .any, .any, .any, .any, .any, .any, .any, .any, .any, .any, .any, .any, .any, .any, .any, .any, .any, .any, .any, .any, .any, .any, .any, .any, .any, .any, .any, .any, .any, .any, .any, .any, .any, .any, .any, .any, .any, .any, .any, .any, .any, .any, .any, .any, .any, .any, .any, .any, .any, .any, .any, .any, .any, .any, .any, .any, .any, .any, .any, .any, .any, .any, .any, .any, .any, .any]) (fun _ => []) (fun k => k ≤ l.length) (fun k => l.length - k) 0 (by simp) ((Wk.nilk 7 2 rfl).trans (Wk.to (by simp) (by simp [leT, extsL, lks]))) ?_
        intro k hk
        (simp only [go_sem, Nat.reduceAdd, Nat.reduceMul, Int.reduceToNat, Nat.reduceLeDiff, Int.reduceLE, Int.reduceLT, ↓reduceIte, Int.reduceBEq, Int.reduceBNe, Int.reduceAdd, Int.reduceSub, Int.reduceMul, lks_length]; try refine okTr_and rfl ?_)
        by_cases hlt : k < l.length
        · have q2 : decide ((k : Int) < (l.length : Int)) = true := decide_eq_true (by omega)
          have g := lks_get l k hlt
          have ek := i64_succ k (by omega)
          have hbk := hm.2 _ (lk_mem l k hlt)
          have hw := with_ext (pos := pos) r2 k hlt
          have hsm : Smalls (extsL (l.take k) pos) := exts_smalls (by simp; omega)
          (simp only [go_sem, Nat.reduceAdd, Nat.reduceMul, Int.reduceToNat, Nat.reduceLeDiff, Int.reduceLE, Int.reduceLT, ↓reduceIte, Int.reduceBEq, Int.reduceBNe, Int.reduceAdd, Int.reduceSub, Int.reduceMul, q2, g, lks_length, Int.toNat_natCast]; try refine okTr_and rfl ?_)
          (repeat ((with_reducible refine And.intro ?_ ?_); (· exact sd)))
          refine CallK.p (link_Extend (l.getD k lk0) pos hbk) ?_; (simp only [go_sem, Nat.reduceAdd, Nat.reduceMul, Int.reduceToNat, Nat.reduceLeDiff, Int.reduceLE, Int.reduceLT, ↓reduceIte, Int.reduceBEq, Int.reduceBNe, Int.reduceAdd, Int.reduceSub, Int.reduceMul]; try refine okTr_and rfl ?_)
          refine CallK.p (link_With _ (extL (l.getD k lk0) pos) hsm ext_small) ?_; (simp only [go_sem, Nat.reduceAdd, Nat.reduceMul, Int.reduceToNat, Nat.reduceLeDiff, Int.reduceLE, Int.reduceLT, ↓reduceIte, Int.reduceBEq, Int.reduceBNe, Int.reduceAdd, Int.reduceSub, Int.reduceMul, hw, ek]; try refine okTr_and rfl ?_)
          exact ⟨k + 1, by omega, by omega, Wk.to (by simp) (by simp [leT])⟩
        · have q2 : decide ((k : Int) < (l.length : Int)) = false := decide_eq_false (by omega)
          obtain rfl : k = l.length := by omega
          have el : l.take l.length = l := List.take_length
          have q3 : (((l.length : Nat) : Int) != ((l.length : Nat) : Int)) = false := by simp
          rw [el]
          (simp only [go_sem, Nat.reduceAdd, Nat.reduceMul, Int.reduceToNat, Nat.reduceLeDiff, Int.reduceLE, Int.reduceLT, ↓reduceIte, Int.reduceBEq, Int.reduceBNe, Int.reduceAdd, Int.reduceSub, Int.reduceMul, q2, q3, lks_length, hel]; try refine okTr_and rfl ?_)
          by_cases hb : 0 < by_
          · have q4 : decide (0 < by_) = true := decide_eq_true hb
            have hr4 := exts_right (q := pos + by_) hr (by omega)
            (simp only [go_sem, Nat.reduceAdd, Nat.reduceMul, Int.reduceToNat, Nat.reduceLeDiff, Int.reduceLE, Int.reduceLT, ↓reduceIte, Int.reduceBEq, Int.reduceBNe, Int.reduceAdd, Int.reduceSub, Int.reduceMul, q4, w]; try refine okTr_and rfl ?_)
            refine CallK.p (link_Right (pos + by_) (extsL l pos) (exts_lks hl p0 p1) (exts_smalls hm.1) (by omega) (by omega)) ?_; (simp only [go_sem, Nat.reduceAdd, Nat.reduceMul, Int.reduceToNat, Nat.reduceLeDiff, Int.reduceLE, Int.reduceLT, ↓reduceIte, Int.reduceBEq, Int.reduceBNe, Int.reduceAdd, Int.reduceSub, Int.reduceMul, hr4]; try refine okTr_and rfl ?_)
            refine loop_of (α := Nat) (fun k => [uA pos, slL l, uA by_, .any, .any, .any, bA false, slL (extsL l pos), .any, iA k, .any, .any, .any, .any, .any, .any, .any, .any, .any, .any, .any, .any, .any, .any, .any, .any, .any, .any, .any, .any, .any, .any, .any, .any, .any, .any, .any, .any, .any, .any, .any, .any, .any, .any, .any, .any, .any, .any, .any, .any, .any, .any, .any, .any, .any, .any, .any, .any, .any, .any, .any, .any, .any, .any, .any, .any, .any, .any, .any, .any, .any, .any, .any, .any, .any, .any, .any, .any, .any, .any, .any, .any, .any, .any, .any, .any, .any, .any, .any, .any, .any, .any, .any, .any, .any, .any, .any, .any, .any, .any, .any, .any, .any, .any, .any]) (fun _ => []) (fun k => k ≤ l.length) (fun k => l.length - k) 0 (by simp) (Wk.to (by simp) (by simp [leT])) ?_
            intro k hk
            (simp only [go_sem, Nat.reduceAdd, Nat.reduceMul, Int.reduceToNat, Nat.reduceLeDiff, Int.reduceLE, Int.reduceLT, ↓reduceIte, Int.reduceBEq, Int.reduceBNe, Int.reduceAdd, Int.reduceSub, Int.reduceMul, lks_length, hel]; try refine okTr_and rfl ?_)
            by_cases hlt : k < l.length
            · have q5 : decide ((k : Int) < (l.length : Int)) = true := decide_eq_true (by omega)
              have g := lks_get l k hlt
              have g2 := lks_get (extsL l pos) k (by omega)
              rw [extsL_get l pos k hlt] at g2
              have ek := i64_succ k (by omega)
              have hbk := hm.2 _ (lk_mem l k hlt)
              have g3 : (ints .u64 (extL (l.getD k lk0) pos).bk).getD 0 .any = uA pos := by simp [extL, ints]
              have g4 : (extL (l.getD k lk0) pos).bk.length = min ((l.getD k lk0).bk.length + 1) 4 := by simp [extL]; omega
              have q6 : decide (((min ((l.getD k lk0).bk.length + 1) 4 : Nat) : Int) < 1) = false := decide_eq_false (by omega)
              have q7 : (pos != pos) = false := by simp
              have eb := i64_succ (l.getD k lk0).bk.length (by omega)
              have em := min4 (l.getD k lk0).bk.length
              have q8 : (((min ((l.getD k lk0).bk.length + 1) 4 : Nat) : Int) != ((min ((l.getD k lk0).bk.length + 1) 4 : Nat) : Int)) = false := by simp
              (simp only [go_sem, Nat.reduceAdd, Nat.reduceMul, Int.reduceToNat, Nat.reduceLeDiff, Int.reduceLE, Int.reduceLT, ↓reduceIte, Int.reduceBEq, Int.reduceBNe, Int.reduceAdd, Int.reduceSub, Int.reduceMul, q5, g, g2, lks_length, hel, Int.toNat_natCast, ints_length, g3, g4, q6, q7, eb, em, q8, ek]; try refine okTr_and rfl ?_)
              (repeat ((with_reducible refine And.intro ?_ ?_); (· exact sd)))
              exact ⟨k + 1, by omega, by omega, Wk.to (by simp) (by simp [leT])⟩
            · have q5 : decide ((k : Int) < (l.length : Int)) = false := decide_eq_false (by omega)
              (simp only [go_sem, Nat.reduceAdd, Nat.reduceMul, Int.reduceToNat, Nat.reduceLeDiff, Int.reduceLE, Int.reduceLT, ↓reduceIte, Int.reduceBEq, Int.reduceBNe, Int.reduceAdd, Int.reduceSub, Int.reduceMul, q5]; try refine okTr_and rfl ?_)
              refine CallK.p (live23) ?_; (simp only [go_sem, Nat.reduceAdd, Nat.reduceMul, Int.reduceToNat, Nat.reduceLeDiff, Int.reduceLE, Int.reduceLT, ↓reduceIte, Int.reduceBEq, Int.reduceBNe, Int.reduceAdd, Int.reduceSub, Int.reduceMul]; try refine okTr_and rfl ?_)
              exact FinK.finA r4 []
          · have q4 : decide (0 < by_) = false := decide_eq_false hb
            (simp only [go_sem, Nat.reduceAdd, Nat.reduceMul, Int.reduceToNat, Nat.reduceLeDiff, Int.reduceLE, Int.reduceLT, ↓reduceIte, Int.reduceBEq, Int.reduceBNe, Int.reduceAdd, Int.reduceSub, Int.reduceMul, q4]; try refine okTr_and rfl ?_)
            refine loop_of (α := Nat) (fun k => [uA pos, slL l, uA by_, .any, .any, .any, bA false, slL (extsL l pos), .any, iA k, .any, .any, .any, .any, .any, .any, .any, .any, .any, .any, .any, .any, .any, .any, .any, .any, .any, .any, .any, .any, .any, .any, .any, .any, .any, .any, .any, .any, .any, .any, .any, .any, .any, .any, .any, .any, .any, .any, .any, .any, .any, .any, .any, .any, .any, .any, .any, .any, .any, .any, .any, .any, .any, .any, .any, .any, .any, .any, .any, .any, .any, .any, .any, .any, .any, .any, .any, .any, .any, .any, .any, .any, .any, .any, .any, .any, .any, .any, .any, .any, .any, .any, .any, .any, .any, .any, .any, .any, .any, .any, .any, .any, .any, .any, .any]) (fun _ => []) (fun k => k ≤ l.length) (fun k => l.length - k) 0 (by simp) (Wk.to (by simp) (by simp [leT])) ?_
            intro k hk
            (simp only [go_sem, Nat.reduceAdd, Nat.reduceMul, Int.reduceToNat, Nat.reduceLeDiff, Int.reduceLE, Int.reduceLT, ↓reduceIte, Int.reduceBEq, Int.reduceBNe, Int.reduceAdd, Int.reduceSub, Int.reduceMul, lks_length, hel]; try refine okTr_and rfl ?_)
            by_cases hlt : k < l.length
            · have q5 : decide ((k : Int) < (l.length : Int)) = true := decide_eq_true (by omega)
              have g := lks_get l k hlt
              have g2 := lks_get (extsL l pos) k (by omega)
              rw [extsL_get l pos k hlt] at g2
              have ek := i64_succ k (by omega)
              have hbk := hm.2 _ (lk_mem l k hlt)
              have g3 : (ints .u64 (extL (l.getD k lk0) pos).bk).getD 0 .any = uA pos := by simp [extL, ints]
              have g4 : (extL (l.getD k lk0) pos).bk.length = min ((l.getD k lk0).bk.length + 1) 4 := by simp [extL]; omega
              have q6 : decide (((min ((l.getD k lk0).bk.length + 1) 4 : Nat) : Int) < 1) = false := decide_eq_false (by omega)
              have q7 : (pos != pos) = false := by simp
              have eb := i64_succ (l.getD k lk0).bk.length (by omega)
              have em := min4 (l.getD k lk0).bk.length
              have q8 : (((min ((l.getD k lk0).bk.length + 1) 4 : Nat) : Int) != ((min ((l.getD k lk0).bk.length + 1) 4 : Nat) : Int)) = false := by simp
              (simp only [go_sem, Nat.reduceAdd, Nat.reduceMul, Int.reduceToNat, Nat.reduceLeDiff, Int.reduceLE, Int.reduceLT, ↓reduceIte, Int.reduceBEq, Int.reduceBNe, Int.reduceAdd, Int.reduceSub, Int.reduceMul, q5, g, g2, lks_length, hel, Int.toNat_natCast, ints_length, g3, g4, q6, q7, eb, em, q8, ek]; try refine okTr_and rfl ?_)
              (repeat ((with_reducible refine And.intro ?_ ?_); (· exact sd)))
              exact ⟨k + 1, by omega, by omega, Wk.to (by simp) (by simp [leT])⟩
            · have q5 : decide ((k : Int) < (l.length : Int)) = false := decide_eq_false (by omega)
              (simp only [go_sem, Nat.reduceAdd, Nat.reduceMul, Int.reduceToNat, Nat.reduceLeDiff, Int.reduceLE, Int.reduceLT, ↓reduceIte, Int.reduceBEq, Int.reduceBNe, Int.reduceAdd, Int.reduceSub, Int.reduceMul, q5]; try refine okTr_and rfl ?_)
              refine CallK.p (live23) ?_; (simp only [go_sem, Nat.reduceAdd, Nat.reduceMul, Int.reduceToNat, Nat.reduceLeDiff, Int.reduceLE, Int.reduceLT, ↓reduceIte, Int.reduceBEq, Int.reduceBNe, Int.reduceAdd, Int.reduceSub, Int.reduceMul]; try refine okTr_and rfl ?_)
              exact FinK.finA r4 []
end Go.Proofs.Ytnfagphepkeedaa
end
section
namespace Go.Proofs.Ytnfagphepkeedaa
open Go.RowKit Go.ChangeShapes Go.WideShapes Go.ChangeAt

/-- The shape of a type: an integer; a slice of elements of n cells (agg: are these structs); a struct's fields, one behind the other. -/
inductive Sh where
  | bool
  | int (k : IntKind)
  | sl (agg : Bool) (n : Nat) (e : Sh)
  | nil
  | pair (a b : Sh)
def elA (agg : Bool) (y : List AV) : AV := if agg then .agg y else y.headD .any
def Sh.Ty : Sh → List AV → Prop
  | .bool, xs => ∃ b, xs = [.lit (.bool b)]
  | .int k, xs => ∃ n, xs = [.lit (.int k n)] ∧ (Lit.int k n).wf = true
  | .sl g n e, xs => ∃ ys : List (List AV), xs = [.sl .none n (ys.map (elA g))] ∧ ∀ y ∈ ys, y.length = n ∧ e.Ty y
  | .nil, xs => xs = []
  | .pair a b, xs => ∃ ys zs, xs = ys ++ zs ∧ a.Ty ys ∧ b.Ty zs
def Sh.flat : Sh → Bool
  | .int _ => true
  | .sl .. => true
  | _ => false
section
variable {P : Program}
def shFs (P : Program) (sub : TypeId → Option Sh) : List Field → Nat → Nat → Option Sh
  | [], off, tot => if off = tot then some .nil else none
  | f :: fs, off, tot => if f.offset = off then (sub f.type).bind fun a => (shFs P sub fs (off + P.cellsOf f.type) tot).map (Sh.pair a) else none
def isSt (P : Program) (t : TypeId) : Bool := match P.underlying t with | some (.struct _) => true | _ => false
def shOf (P : Program) : Nat → TypeId → Option Sh
  | 0, _ => none
  | f + 1, t => match P.underlying t with
    | some .bool => some .bool
    | some (.int k) => some (.int k)
    | some (.slice e) => match shOf P f e with
      | some s => if 1 ≤ P.cellsOf e ∧ (isSt P e = true ∨ s.flat = true ∧ P.cellsOf e = 1) then some (.sl (isSt P e) (P.cellsOf e) s) else none
      | none => none
    | some (.struct fs) => shFs P (shOf P f) fs.toList 0 (P.cellsOf t)
    | _ => none

variable {H : Type} {enc : TypeId × Value → H} {W : World} {sp : Nat → Bool} {held : Bool}
theorem flat_cells {s : Sh} (hf : s.flat = true) {y : List AV} (h : s.Ty y) : ∃ x, y = [x] ∧ x.cells = [x] := by
  cases s with
  | bool => cases hf
  | int k => obtain ⟨n, rfl, _⟩ := h; exact ⟨_, rfl, rfl⟩
  | sl g n e => obtain ⟨ys, rfl, _⟩ := h; exact ⟨_, rfl, rfl⟩
  | nil => cases hf
  | pair a b => cases hf
theorem elA_cells {g : Bool} {s : Sh} (hg : g = true ∨ s.flat = true) {y : List AV} (h : s.Ty y) : (elA g y).cells = y := by
  cases g with
  | true => simp [elA, AV.cells]
  | false =>
    rcases hg with hg | hg
    · cases hg
    · obtain ⟨x, rfl, hx⟩ := flat_cells hg h
      simpa [elA] using hx
theorem shape_struct {n : Nat} {sub : TypeId → Option Sh}
    (ih : ∀ (t : TypeId) (s : Sh) (cs : List Value) (x : DataW H × List MemPlace), sub t = some s → DataW.trod enc P W 0 sp held n t cs = some x → ∃ xs, RepL (G0 W) xs cs ∧ (∀ v ∈ cs, v.oneCell' = true) ∧ s.Ty xs) :
    ∀ (fs : List Field) (off tot : Nat) (s : Sh) (cs : List Value) (zs : List (DataW H × List MemPlace)), shFs P sub fs off tot = some s → cs.length = tot → zs.length = fs.length →
      (∀ (i : Nat) (f : Field), fs[i]? = some f → DataW.trod enc P W 0 sp held n f.type ((cs.drop f.offset).take (P.cellsOf f.type)) = zs[i]?) →
      ∃ xs, RepL (G0 W) xs (cs.drop off) ∧ (∀ v ∈ cs.drop off, v.oneCell' = true) ∧ s.Ty xs := by
  intro fs
  induction fs with
  | nil =>
    intro off tot s cs zs hs hl _ _
    simp only [shFs] at hs
    split at hs
    · rename_i ho
      injection hs with hs; subst hs
      have : cs.drop off = [] := List.drop_eq_nil_of_le (by omega)
      rw [this]
      exact ⟨[], RepL.nil _, by simp, rfl⟩
    · cases hs
  | cons f fs ihf =>
    intro off tot s cs zs hs hl hz h
    simp only [shFs] at hs
    split at hs
    · rename_i ho
      cases ha : sub f.type with
      | none => simp [ha] at hs
      | some a =>
        simp only [ha, Option.bind_some, Option.map_eq_some_iff] at hs
        obtain ⟨b, hb, rfl⟩ := hs
        cases zs with
        | nil => simp at hz
        | cons z zs =>
          have h0 := h 0 f rfl
          simp only [List.getElem?_cons_zero] at h0
          obtain ⟨xs, r1, r2, r3⟩ := ih _ a _ z ha h0
          obtain ⟨ys, q1, q2, q3⟩ := ihf (off + P.cellsOf f.type) tot b cs zs hb hl (by simpa using hz) (fun i g hg => by simpa using h (i + 1) g (by simpa using hg))
          rw [ho] at r1 r2
          have e : cs.drop off = (cs.drop off).take (P.cellsOf f.type) ++ cs.drop (off + P.cellsOf f.type) := by
            rw [← List.drop_drop, List.take_append_drop]
          rw [e]
          exact ⟨xs ++ ys, r1.append q1, fun v hv => by rcases List.mem_append.1 hv with hv | hv; exact r2 v hv; exact q2 v hv, xs, ys, rfl, r3, q3⟩
    · cases hs
theorem cells_get {a : Addr} {n : Nat} {cs : List Value} (h : W.cells? 0 a n = some cs) : cs.length = n ∧ ∀ i, i < n → W.cell? (a.add i) = cs[i]? := by
  obtain ⟨h1, h2, h3⟩ := World.cells?_some h
  exact ⟨h2, h3⟩
/-- What is read of such a shape is so told. -/
theorem shape_rep : ∀ (f : Nat) (t : TypeId) (s : Sh) (n : Nat) (cs : List Value) (x : DataW H × List MemPlace), shOf P f t = some s → DataW.trod enc P W 0 sp held n t cs = some x →
    ∃ xs, RepL (G0 W) xs cs ∧ (∀ v ∈ cs, v.oneCell' = true) ∧ s.Ty xs := by
  intro f
  induction f with
  | zero => intro t s n cs x h; simp [shOf] at h
  | succ f ih =>
    intro t s n cs x hs hd
    simp only [shOf] at hs
    cases hu : P.underlying t with
    | none => simp [hu] at hs
    | some u =>
      rw [hu] at hs
      cases u with
      | bool =>
        injection hs with hs; subst hs
        obtain ⟨m, rfl, _⟩ := DataW.trod_bool hu hd
        exact ⟨[.lit (.bool m)], (RepL.nil _).cons (.lit _), by simp [Value.oneCell'], m, rfl⟩
      | int k =>
        injection hs with hs; subst hs
        obtain ⟨m, rfl, _, hw⟩ := DataW.trod_int hu hd
        exact ⟨[.lit (.int k m)], (RepL.nil _).cons (.lit _), by simp [Value.oneCell'], m, rfl, hw⟩
      | struct fs =>
        obtain ⟨xs, m, _, _, hl, hn, hf⟩ := DataW.trod_struct hu hd
        have := shape_struct (sub := shOf P f) (n := m) (fun t s cs x h1 h2 => ih t s m cs x h1 h2) fs.toList 0 (P.cellsOf t) s cs xs hs hl (by simpa using hn) (fun i f hi => hf i f (by simpa using hi))
        simpa using this
      | slice e =>
        simp only at hs
        cases he : shOf P f e with
        | none => simp [he] at hs
        | some se =>
          rw [he] at hs
          simp only at hs
          split at hs
          · rename_i hc
            injection hs with hs; subst hs
            obtain ⟨hc1, hc2⟩ := hc
            have hg : isSt P e = true ∨ se.flat = true := by rcases hc2 with h | h; exact .inl h; exact .inr h.1
            rcases DataW.trod_slice hu hd with ⟨rfl, _⟩ | ⟨a, len, cap, elems, rest, m, _, rfl, _, _, hle, _, hlen, hel, _, _⟩
            · refine ⟨[.sl .none (P.cellsOf e) []], (RepL.nil _).cons ?_, by simp [Value.oneCell'], [], rfl, by simp⟩
              exact .sl (A := none) (c := 0) (b := 0) (o := 0) (fun _ _ => undef) (by simp) (by simp) (by simp) (by simp) (by simp) (by simp) trivial
            · have each : ∀ i, i < len → ∃ (ce : List Value) (y : List AV), ce.length = P.cellsOf e ∧ (∀ j, j < P.cellsOf e → W.cell? ((a.add (i * P.cellsOf e)).add j) = ce[j]?) ∧ RepL (G0 W) y ce ∧ (∀ v ∈ ce, v.oneCell' = true) ∧ se.Ty y := by
                intro i hi
                have h1 := hel i hi
                have h2 : elems[i]? = some elems[i] := by simp
                rw [h2, Option.bind_eq_some_iff] at h1
                obtain ⟨ce, h3, h4⟩ := h1
                obtain ⟨k1, k2⟩ := cells_get h3
                obtain ⟨y, y1, y2, y3⟩ := ih e se m ce _ he h4
                exact ⟨ce, y, k1, k2, y1, y2, y3⟩
              -- choose them
              have pick : ∃ (cf : Nat → List Value) (yf : Nat → List AV), ∀ i, i < len → (cf i).length = P.cellsOf e ∧ (∀ j, j < P.cellsOf e → W.cell? ((a.add (i * P.cellsOf e)).add j) = (cf i)[j]?) ∧ RepL (G0 W) (yf i) (cf i) ∧ (∀ v ∈ cf i, v.oneCell' = true) ∧ se.Ty (yf i) := by
                refine ⟨fun i => if h : i < len then (each i h).choose else [], fun i => if h : i < len then (each i h).choose_spec.choose else [], fun i hi => ?_⟩
                simp only [dif_pos hi]
                exact (each i hi).choose_spec.choose_spec
              obtain ⟨cf, yf, hall⟩ := pick
              have hyl : ∀ i, i < len → (yf i).length = P.cellsOf e := fun i hi => by
                obtain ⟨p1, _, p3, _⟩ := hall i hi
                rw [p3.1, p1]
              have hlenY : ((List.range len).map yf).length = len := by simp
              have hty : ∀ y ∈ (List.range len).map yf, y.length = P.cellsOf e ∧ se.Ty y := by
                intro y hy
                simp only [List.mem_map, List.mem_range] at hy
                obtain ⟨i, hi, rfl⟩ := hy
                exact ⟨hyl i hi, (hall i hi).2.2.2.2⟩
              refine ⟨[.sl .none (P.cellsOf e) (((List.range len).map yf).map (elA (isSt P e)))], (RepL.nil _).cons ?_, by simp [Value.oneCell'], (List.range len).map yf, rfl, hty⟩
              have hL : (((List.range len).map yf).map (elA (isSt P e))).length = len := by simp
              have hget : ∀ i x, (((List.range len).map yf).map (elA (isSt P e)))[i]? = some x → i < len ∧ x = elA (isSt P e) (yf i) := by
                intro i x hx
                have hi : i < len := by
                  rcases Nat.lt_or_ge i len with h | h
                  · exact h
                  · rw [List.getElem?_eq_none (by simpa using h)] at hx; cases hx
                simp [hi] at hx
                exact ⟨hi, hx.symm⟩
              have hspot : 0 < len → a.spot = none := by
                intro h0
                obtain ⟨p1, p2, _⟩ := hall 0 h0
                have := p2 0 (by omega)
                rw [List.getElem?_eq_getElem (by omega)] at this
                have := spot_none this
                simpa [Addr.add] using this
              have hcell : ∀ i j, i < len → j < P.cellsOf e → W.cell? ⟨a.block, a.off + i * P.cellsOf e + j, none⟩ = (cf i)[j]? := by
                intro i j hi hj
                have hs := hspot (by omega)
                obtain ⟨_, p2, _⟩ := hall i hi
                rw [← p2 j hj]
                obtain ⟨b, o, s⟩ := a
                simp only at hs
                subst hs
                rw [add_none, add_none]
              have main : Rep (G0 W) (.sl .none (P.cellsOf e) (((List.range len).map yf).map (elA (isSt P e)))) (.slice (some a) (((List.range len).map yf).map (elA (isSt P e))).length cap) := by
                refine .sl (b := a.block) (o := a.off) (fun i j => (cf i).getD j undef) (by rw [hL]; exact hle) (fun h => ?_) (fun i x hx => ?_) (fun i j hi hj => ?_) (fun i j hi hj => ?_) (fun i j x y hx hy => ?_) trivial
                · have hs := hspot (by rw [hL] at h; exact h)
                  obtain ⟨b, o, s⟩ := a
                  simp only at hs
                  subst hs; rfl
                · obtain ⟨hi, rfl⟩ := hget i x hx
                  rw [elA_cells hg (hall i hi).2.2.2.2]; exact hyl i hi
                · rw [hL] at hi
                  have hc := hcell i j hi hj
                  have p1 := (hall i hi).1
                  rw [List.getElem?_eq_getElem (by omega)] at hc
                  have e2 : (cf i).getD j undef = (cf i)[j]'(by omega) := by simp [show j < (cf i).length by omega]
                  rw [e2]; exact hc
                · rw [hL] at hi
                  have p1 := (hall i hi).1
                  have e2 : (cf i).getD j undef = (cf i)[j]'(by omega) := by simp [show j < (cf i).length by omega]
                  rw [e2]; exact (hall i hi).2.2.2.1 _ (List.getElem_mem _)
                · obtain ⟨hi, rfl⟩ := hget i x hx
                  rw [elA_cells hg (hall i hi).2.2.2.2] at hy
                  have p3 := (hall i hi).2.2.1
                  have hj : j < (yf i).length := (List.getElem?_eq_some_iff.1 hy).1
                  have hj2 : j < (cf i).length := by rw [← p3.1]; exact hj
                  have e2 : (cf i).getD j undef = (cf i)[j] := by simp [hj2]
                  rw [e2]
                  exact p3.2 j y _ hy (List.getElem?_eq_getElem hj2)
              rw [hL] at main
              exact main
          · cases hs
      | _ => simp at hs
/-- An argument of a shape. -/
theorem open_sh {r : Reach} {b0 : Nat} {t : TypeId} {s : Sh} {v : Value} {d : DataW H} {ps : List MemPlace} (f : Nat) (hs : shOf P f t = some s) (hval : Value.okWide P W r b0 t v) (hd : DataW.Trod enc P W 0 sp held t v d ps) :
    ∃ xs, RepL (G0 W) xs v.cells.toList ∧ (∀ u ∈ v.cells.toList, u.oneCell' = true) ∧ s.Ty xs := by
  obtain ⟨fuel, hf⟩ := hd
  exact shape_rep f t s fuel _ _ hs hf
/-- A slice argument. -/
theorem open_slsh {r : Reach} {b0 : Nat} {t e : TypeId} {g : Bool} {n : Nat} {se : Sh} {v : Value} {d : DataW H} {ps : List MemPlace} (f : Nat) (hs : shOf P f t = some (.sl g n se)) (ht : P.underlying t = some (.slice e)) (hval : Value.okWide P W r b0 t v) (hd : DataW.Trod enc P W 0 sp held t v d ps) :
    ∃ ys : List (List AV), Rep (G0 W) (.sl .none n (ys.map (elA g))) v ∧ ∀ y ∈ ys, y.length = n ∧ se.Ty y := by
  obtain ⟨xs, h1, h2, ys, rfl, h3⟩ := open_sh f hs hval hd
  obtain ⟨a, len, cap, rfl⟩ := okWide_slice ht hval
  refine ⟨ys, h1.2 0 _ _ rfl ?_, h3⟩
  simp [Value.cells]
theorem ex_list {β : Type} {A : List AV → Prop} {g : β → List AV} {ok : β → Prop} : ∀ {ys : List (List AV)}, (∀ y ∈ ys, A y) → (∀ y, A y → ∃ m, y = g m ∧ ok m) → ∃ l : List β, ys = l.map g ∧ ∀ m ∈ l, ok m := by
  intro ys
  induction ys with
  | nil => intro _ _; exact ⟨[], rfl, by simp⟩
  | cons y ys ih =>
    intro h hg
    obtain ⟨l, rfl, hl⟩ := ih (fun y hy => h y (List.mem_cons_of_mem _ hy)) hg
    obtain ⟨m, rfl, hm⟩ := hg y (h y (List.mem_cons_self ..))
    exact ⟨m :: l, rfl, fun x hx => by rcases List.mem_cons.1 hx with rfl | hx; exact hm; exact hl x hx⟩
end
end Go.Proofs.Ytnfagphepkeedaa
end
section
namespace Go.Proofs.Ytnfagphepkeedaa
open Go.RowKit

end Go.Proofs.Ytnfagphepkeedaa
end
section
namespace Go.Proofs.Ytnfagphepkeedaa
open Go.RowKit

theorem bys_app {a b : List Int} (ha : Bys a) (hb : Bys b) : Bys (a ++ b) := fun x hx => by rcases List.mem_append.1 hx with hx | hx; exact ha x hx; exact hb x hx
theorem frameB_le (p : List Int) : (frameB p).length ≤ p.length + 14 ∧ p.length + 5 ≤ (frameB p).length := by
  rw [frameB_len]; unfold blobB; rw [List.length_append]; have := vb_len (p.length : Int); omega
end Go.Proofs.Ytnfagphepkeedaa
end
section
namespace Go.Proofs.Ytnfagphepkeedaa
end Go.Proofs.Ytnfagphepkeedaa
end
section
namespace Go.Proofs.Ytnfagphepkeedaa
open Go.RowKit

end Go.Proofs.Ytnfagphepkeedaa
end
section
namespace Go.Proofs.Ytnfagphepkeedaa
open Go.RowKit

/-- Rows of bytes. -/
def bss (l : List (List Int)) : List AV := l.map (slA .u8)
@[simp] theorem ren_bss (ρ : Nat → Nat) (l : List (List Int)) : (bss l).map (fun x => x.ren ρ) = bss l := by simp [bss, ixs_z]
def Byss (l : List (List Int)) : Prop := ∀ b ∈ l, Bys b
theorem ls_mem (l : List (List Int)) (k : Nat) (h : k < l.length) : l.getD k [] ∈ l := by simp [h]
/-- What was laid so far: frames at their places. -/
structure Laid (l : List (List Int)) (i : Nat) (all pl : List Int) : Prop where
  len : pl.length = i
  bys : Bys all
  le : all.length ≤ 110 * i
  at_ : ∀ j, j < i → (l.getD j []).length ≤ 60 ∧ 0 ≤ pl.getD j 0 ∧ (pl.getD j 0).toNat + (frameB (l.getD j [])).length ≤ all.length ∧ (all.drop (pl.getD j 0).toNat).take (frameB (l.getD j [])).length = frameB (l.getD j [])
  last : (if i = 0 then 0 else (pl.getD (i - 1) 0).toNat + (frameB (l.getD (i - 1) [])).length) = all.length
theorem Laid.next {l : List (List Int)} {i : Nat} {all pl x : List Int} (hl : Byss l) (h : Laid l i all pl) (hi : i < l.length) (hx : Bys x) (h1 : x.length ≤ 30) (h2 : (l.getD i []).length ≤ 60) :
    Laid l (i + 1) (all ++ x ++ frameB (l.getD i [])) (pl ++ [((all ++ x).length : Int)]) := by
  have hf := frameB_le (l.getD i [])
  have hb := frameB_bys (hl _ (ls_mem l i hi)) (by omega)
  obtain ⟨a1, a2, a3, a4, a5⟩ := h
  have hlast : (pl ++ [((all ++ x).length : Int)]).getD i 0 = ((all ++ x).length : Int) := by
    simp [← a1]
  refine ⟨by simp [a1], bys_app (bys_app a2 hx) hb, by simp only [List.length_append]; omega, fun j hj => ?_, ?_⟩
  · by_cases h3 : j < i
    · obtain ⟨b1, b2, b3, b4⟩ := a4 j h3
      have e : (pl ++ [((all ++ x).length : Int)]).getD j 0 = pl.getD j 0 := by
        simp [List.getElem?_append, a1, h3]
      rw [e]
      refine ⟨b1, b2, by simp only [List.length_append]; omega, ?_⟩
      rw [List.append_assoc, List.drop_append_of_le_length (by omega), List.take_append_of_le_length (by rw [List.length_drop]; omega)]
      exact b4
    · obtain rfl : j = i := by omega
      rw [hlast, Int.toNat_natCast]
      refine ⟨h2, by omega, by simp only [List.length_append]; omega, ?_⟩
      rw [List.drop_left, List.take_length]
  · rw [if_neg (by omega), Nat.add_sub_cancel, hlast, Int.toNat_natCast]
    simp only [List.length_append]
theorem Laid.whole {l : List (List Int)} {i : Nat} {all pl : List Int} (hl : Byss l) (h : Laid l i all pl) (hi : i = l.length) {j : Nat} (hj : j < i) : wholeF (all.drop (pl.getD j 0).toNat) 60 = (frameB (l.getD j [])).length := by
  obtain ⟨b1, b2, b3, b4⟩ := h.at_ j hj
  obtain ⟨p, hp⟩ : ∃ p, l.getD j [] = p := ⟨_, rfl⟩
  rw [hp] at b1 b3 b4 ⊢
  have e : all.drop (pl.getD j 0).toNat = vb (p.length : Int) ++ ((p ++ lowBytes 4 (crcI p)) ++ (all.drop (pl.getD j 0).toNat).drop (frameB p).length) := by
    conv => lhs; rw [← List.take_append_drop (frameB p).length (all.drop (pl.getD j 0).toNat), b4]
    unfold frameB blobB
    simp only [List.append_assoc]
  have hm : mfr 60 = 60 := by decide
  have hi := int_own (s := RS.new (all.drop (pl.getD j 0).toNat)) (x := (p.length : Int)) (m := mfr 60) rfl (by omega) (by rw [hm]; omega) (by omega) ((new_rest _).trans e)
  unfold wholeF
  rw [hi]
  show (if (0 : Int) = 0 then sizeF (p.length : Int) else 0) = _
  rw [if_pos rfl, sizeF_frame]
end Go.Proofs.Ytnfagphepkeedaa
end
section
namespace Go.Proofs.Ytnfagphepkeedaa

theorem ty_ints' {k : IntKind} {ys : List (List AV)} (h : ∀ y ∈ ys, y.length = 1 ∧ (Sh.int k).Ty y) : ∃ l : List Int, ys.map (elA false) = ints k l ∧ ∀ n ∈ l, (Lit.int k n).wf = true := by
  obtain ⟨l, rfl, hl⟩ := ex_list (g := fun n : Int => [AV.lit (.int k n)]) (ok := fun n => (Lit.int k n).wf = true) (fun y hy => (h y hy).2) fun y hy => hy
  exact ⟨l, by simp [ints, elA], hl⟩
end Go.Proofs.Ytnfagphepkeedaa
end
section
namespace Go.Proofs.Ytnfagphepkeedaa

def shLk : Sh := .pair (.int .u64) (.pair (.sl false 1 (.int .u64)) .nil)
theorem ty_lk {y : List AV} (h : shLk.Ty y) : ∃ x : Lk, y = [uA x.st, slA .u64 x.bk] ∧ x.ok := by
  obtain ⟨a, b, rfl, ⟨p, rfl, hp⟩, c, d, rfl, ⟨ys, rfl, hy⟩, rfl⟩ := h
  obtain ⟨l, e1, hl⟩ := ty_ints' hy
  have := u64_wf hp
  exact ⟨⟨p, l⟩, by rw [e1]; rfl, ⟨by simp only; omega, by simp only; omega, fun x hx => by have := u64_wf (hl x hx); omega⟩⟩
theorem lks_of {ys : List (List AV)} (h : ∀ y ∈ ys, y.length = 2 ∧ shLk.Ty y) : ∃ l : List Lk, ys.map (elA true) = lks l ∧ Lks l := by
  obtain ⟨l, rfl, hl⟩ := ex_list (g := fun x : Lk => [uA x.st, slA .u64 x.bk]) (ok := Lk.ok) (fun y hy => (h y hy).2) fun y hy => ty_lk hy
  exact ⟨l, by simp [lks, lkA, elA], hl⟩
end Go.Proofs.Ytnfagphepkeedaa
end
section
namespace Go.Proofs.Ytnfagphepkeedaa
open Go.RowKit

def leadsAt (P : Program) (g : Nat) : List Nat := (P.funcs[g]?).elim [] P.leadsTo
/-- What a function's own text says: where it leads; is it one of ours, or without a text; does it call what no name tells; which variables it names. -/
def tellOf (P : Program) (g : Func) : List Nat × Bool × Bool × List Nat :=
  (P.leadsTo g, (g.ours || g.body.isNone || g.name == "runtime.NumGoroutine"), (match g.body with | some c => c.unfollowed | none => entryCalls g), g.body.elim [] Code.globalsNamed)

section
variable {P : Program} {T : List (List Nat × Bool × Bool × List Nat)}
def T0 : List Nat × Bool × Bool × List Nat := ([], false, false, [])
theorem tell_at (hT : P.funcs.toList.map (tellOf P) = T) (g : Nat) {fn : Func} (h : P.funcs[g]? = some fn) : T[g]? = some (tellOf P fn) := by
  rw [← hT, List.getElem?_map]
  simp [h]
theorem leads_at (hT : P.funcs.toList.map (tellOf P) = T) (g : Nat) : leadsAt P g = ((T[g]?).getD T0).1 := by
  cases h : P.funcs[g]? with
  | none => rw [← hT, List.getElem?_map]; simp [leadsAt, h, T0]
  | some fn => rw [tell_at hT g h]; simp [leadsAt, h, tellOf]

theorem mem_seen (g : Nat) : ∀ n todo seen, g ∈ seen → g ∈ P.closureVia n todo seen := by
  intro n
  induction n with
  | zero => intro todo seen h; simpa [Program.closureVia] using h
  | succ n ih =>
    intro todo seen h
    cases todo with
    | nil => simpa [Program.closureVia] using h
    | cons f todo =>
      unfold Program.closureVia
      split
      · exact ih _ _ h
      · exact ih _ _ (List.mem_cons_of_mem _ h)
theorem closure_sub (C : Nat → Prop) (hC : ∀ g, C g → ∀ h ∈ leadsAt P g, C h) : ∀ n todo seen, (∀ x ∈ todo, C x) → (∀ x ∈ seen, C x) → ∀ x ∈ P.closureVia n todo seen, C x := by
  intro n
  induction n with
  | zero => intro todo seen _ hs x hx; exact hs x (by simpa [Program.closureVia] using hx)
  | succ n ih =>
    intro todo seen ht hs
    cases todo with
    | nil => intro x hx; exact hs x (by simpa [Program.closureVia] using hx)
    | cons f todo =>
      unfold Program.closureVia
      split
      · exact ih _ _ (fun x hx => ht x (List.mem_cons_of_mem _ hx)) hs
      · refine ih _ _ (fun x hx => ?_) (fun x hx => ?_)
        · rcases List.mem_append.1 hx with h | h
          · exact hC f (ht f (List.mem_cons_self ..)) x h
          · exact ht x (List.mem_cons_of_mem _ h)
        · rcases List.mem_cons.1 hx with h | h
          · rw [h]; exact ht f (List.mem_cons_self ..)
          · exact hs x h
theorem closure_in (C : Nat → Prop) (hC : ∀ g, C g → ∀ h ∈ leadsAt P g, C h) {f : Nat} (hf : C f) : ∀ x ∈ P.closure f, C x :=
  closure_sub C hC _ _ _ (fun x hx => by simp at hx; rw [hx]; exact hf) (fun x hx => by simp at hx)

/-- The walk of the closure on the table, k steps. -/
def closT (T : List (List Nat × Bool × Bool × List Nat)) : Nat → List Nat → List Nat → List Nat × List Nat
  | 0, todo, seen => (todo, seen)
  | _, [], seen => ([], seen)
  | n + 1, f :: todo, seen => if seen.contains f then closT T n todo seen else closT T n (((T[f]?).getD T0).1 ++ todo) (f :: seen)
theorem closT_mem (hT : P.funcs.toList.map (tellOf P) = T) (g : Nat) : ∀ k n todo seen, g ∈ (closT T k todo seen).2 → g ∈ P.closureVia (k + n) todo seen := by
  intro k
  induction k with
  | zero => intro n todo seen h; exact mem_seen g _ _ _ h
  | succ k ih =>
    intro n todo seen h
    cases todo with
    | nil => exact mem_seen g _ _ _ (by simpa [closT] using h)
    | cons f todo =>
      rw [show k + 1 + n = (k + n) + 1 from by omega]
      unfold closT at h
      unfold Program.closureVia
      split at h
      · rename_i hc; rw [if_pos hc]; exact ih _ _ _ h
      · rename_i hc; rw [if_neg hc]
        have e := leads_at hT f
        unfold leadsAt at e
        rw [e]; exact ih _ _ _ h
theorem closure_mem (hT : P.funcs.toList.map (tellOf P) = T) {f g : Nat} (k : Nat) (hk : k ≤ (T.map fun t => t.1.length + 1).sum) (h : (closT T k [f] []).2.contains g = true) : g ∈ P.closure f := by
  have e : (P.funcs.toList.map fun g => (P.leadsTo g).length + 1) = T.map fun t => t.1.length + 1 := by
    rw [← hT, List.map_map]; rfl
  unfold Program.closure
  rw [e]
  obtain ⟨m, hm⟩ := Nat.exists_eq_add_of_le (Nat.le_trans hk (Nat.le_add_left _ 1))
  rw [hm]
  exact closT_mem hT g k m _ _ (by simpa using h)

/-- The same of a set in which one function has no text. -/
def quietSet1 (T : List (List Nat × Bool × Bool × List Nat)) (g0 : Nat) (C : List Nat) : Bool :=
  C.all fun g => match T[g]? with | some t => t.1.all (C.contains ·) && (!t.2.1 || g == g0) && t.2.2.2.isEmpty | none => false
theorem quiet_closed1 (hT : P.funcs.toList.map (tellOf P) = T) {C : List Nat} {g0 : Nat} (hq : quietSet1 T g0 C = true) : ∀ g, g ∈ C → ∀ h ∈ leadsAt P g, h ∈ C := by
  intro g hg h hh
  have q := List.all_eq_true.1 hq g hg
  rw [leads_at hT] at hh
  cases e : T[g]? with
  | none => rw [e] at q; simp at q
  | some t =>
    rw [e] at q hh
    simp only [Bool.and_eq_true, List.all_eq_true] at q
    simpa using q.1.1 h hh
theorem quiet_tell1 (hT : P.funcs.toList.map (tellOf P) = T) {C : List Nat} {g0 : Nat} (hq : quietSet1 T g0 C = true) {g : Nat} (hg : g ∈ C) : ∃ fn, P.funcs[g]? = some fn ∧ ((fn.ours || fn.body.isNone || fn.name == "runtime.NumGoroutine") = false ∨ g = g0) ∧ fn.body.elim [] Code.globalsNamed = [] := by
  have q := List.all_eq_true.1 hq g hg
  cases h : P.funcs[g]? with
  | none =>
    have : T[g]? = none := by rw [← hT, List.getElem?_map]; simp [h]
    rw [this] at q; simp at q
  | some fn =>
    rw [tell_at hT g h] at q
    simp only [tellOf, Bool.and_eq_true, List.isEmpty_iff, Bool.or_eq_true, Bool.not_eq_true', beq_iff_eq] at q
    exact ⟨fn, rfl, q.1.2, q.2⟩
theorem closT_eq (hT : P.funcs.toList.map (tellOf P) = T) : ∀ k n todo seen s, closT T k todo seen = ([], s) → P.closureVia (k + n) todo seen = s.reverse := by
  intro k
  induction k with
  | zero =>
    intro n todo seen s h
    simp only [closT, Prod.mk.injEq] at h
    obtain ⟨rfl, rfl⟩ := h
    cases n <;> simp [Program.closureVia]
  | succ k ih =>
    intro n todo seen s h
    cases todo with
    | nil =>
      simp only [closT, Prod.mk.injEq, true_and] at h
      subst h
      rw [show k + 1 + n = (k + n) + 1 from by omega]
      simp [Program.closureVia]
    | cons f todo =>
      rw [show k + 1 + n = (k + n) + 1 from by omega]
      unfold closT at h
      unfold Program.closureVia
      split at h
      · rename_i hc; rw [if_pos hc]; exact ih _ _ _ _ h
      · rename_i hc; rw [if_neg hc]
        have e := leads_at hT f
        unfold leadsAt at e
        rw [e]; exact ih _ _ _ _ h
theorem closure_is (hT : P.funcs.toList.map (tellOf P) = T) {f : Nat} (k : Nat) (s : List Nat) (hk : k ≤ (T.map fun t => t.1.length + 1).sum) (h : closT T k [f] [] = ([], s)) : P.closure f = s.reverse := by
  have e : (P.funcs.toList.map fun g => (P.leadsTo g).length + 1) = T.map fun t => t.1.length + 1 := by
    rw [← hT, List.map_map]; rfl
  unfold Program.closure
  rw [e]
  obtain ⟨m, hm⟩ := Nat.exists_eq_add_of_le (Nat.le_trans hk (Nat.le_add_left _ 1))
  rw [hm]
  exact closT_eq hT k m _ _ _ h
theorem fm_one {α β : Type} (l : List α) (p : α → Bool) (F G : α → Option β) (hF : ∀ a, F a = if p a = true then G a else none) : l.filterMap F = (l.filter p).filterMap G := by
  induction l with
  | nil => rfl
  | cons a l ih =>
    rw [List.filterMap_cons, List.filter_cons, ih, hF]
    cases hp : p a with
    | false => rfl
    | true => rw [if_pos rfl, if_pos rfl, List.filterMap_cons]
theorem inPlace_one (hT : P.funcs.toList.map (tellOf P) = T) {f g0 : Nat} (k : Nat) (s : List Nat) (hk : k ≤ (T.map fun t => t.1.length + 1).sum) (h : closT T k [f] [] = ([], s)) (hone : (s.reverse.filter fun g => ((T[g]?).getD T0).2.1) = [g0]) {fn0 : Func} (h0 : P.funcs[g0]? = some fn0) : [fn0.name] = P.inPlace f := by
  have key := fun C : List Nat => fm_one C (fun g => ((T[g]?).getD T0).2.1) (fun g => (P.funcs[g]?).bind fun fn => if fn.ours || fn.body.isNone || fn.name == "runtime.NumGoroutine" then some fn.name else none) (fun g => (P.funcs[g]?).map (·.name)) fun g => by
    cases e : P.funcs[g]? with
    | none =>
      have : T[g]? = none := by rw [← hT, List.getElem?_map]; simp [e]
      simp [this, T0]
    | some fn => rw [tell_at hT g e]; rfl
  unfold Program.inPlace
  rw [closure_is hT k s hk h, key, hone]
  simp [h0]
theorem varsNamed_nil1 (hT : P.funcs.toList.map (tellOf P) = T) {C : List Nat} {g0 : Nat} (hq : quietSet1 T g0 C = true) {f : Nat} (hf : f ∈ C) {fn0 : Func} (h0 : P.funcs[g0]? = some fn0) (hr : entryReads.lookup fn0.name = none) : [] = P.varsNamed f := by
  have hin := closure_in (P := P) (· ∈ C) (quiet_closed1 hT hq) hf
  have e1 : ((P.closure f).flatMap fun g => ((P.funcs[g]?).bind (·.body)).elim [] Code.globalsNamed) = [] := by
    rw [List.flatMap_eq_nil_iff]
    intro g hg
    obtain ⟨fn, h, h1, h2⟩ := quiet_tell1 hT hq (hin g hg)
    simpa [h] using h2
  have e2 : ((P.closure f).filterMap fun g => (P.funcs[g]?).bind fun fn => if fn.body.isNone then entryReads.lookup fn.name else none) = [] := by
    rw [List.filterMap_eq_nil_iff]
    intro g hg
    obtain ⟨fn, h, h1, h2⟩ := quiet_tell1 hT hq (hin g hg)
    rcases h1 with h1 | rfl
    · have hb : fn.body.isNone = false := by
        simp only [Bool.or_eq_false_iff] at h1
        exact h1.1.2
      simp only [h, Option.bind_some, hb]; rfl
    · rw [h0] at h; injection h with h; subst h
      simp only [h0, Option.bind_some]
      split
      · exact hr
      · rfl
  unfold Program.varsNamed
  rw [e1, e2]
  rfl
theorem unfollowed_true (hT : P.funcs.toList.map (tellOf P) = T) {f g : Nat} (k : Nat) (hk : k ≤ (T.map fun t => t.1.length + 1).sum) (h : (closT T k [f] []).2.contains g = true)
    (hu : ((T[g]?).getD T0).2.2.1 = true) : true = P.unfollowed f := by
  unfold Program.unfollowed
  symm
  rw [List.any_eq_true]
  refine ⟨g, closure_mem hT k hk h, ?_⟩
  cases e : P.funcs[g]? with
  | none =>
    have : T[g]? = none := by rw [← hT, List.getElem?_map]; simp [e]
    rw [this] at hu; simp [T0] at hu
  | some fn =>
    rw [tell_at hT g e] at hu
    simp only [Option.getD_some, tellOf] at hu
    simp only [Option.any_some]
    revert hu
    cases fn.body <;> simp
theorem recurses_true_of_unfollowed {f : Nat} (h : true = P.unfollowed f) : true = P.recurses f := by
  unfold Program.recurses; rw [← h]; rfl
end

theorem strip_cut (rest : List (List Char)) : stripLifts liftWords ("cut".toList :: rest) = ([], "cut".toList :: rest) := by kernel_rfl
theorem cut_not : ("cut".toList == "gc".toList) = false ∧ ("cut".toList == "spec".toList) = false ∧ ("cut".toList == "carried".toList) = false ∧ ("cut".toList == "cut".toList) = true := ⟨by kernel_rfl, by kernel_rfl, by kernel_rfl, by kernel_rfl⟩
section
variable {P : Program} {rest : List (List Char)} (h : behindMainWord (wordsSigns P.initOrder.toList) = "cut".toList :: rest)
include h
theorem headLifts_of : P.headLifts = [] := by
  unfold Program.headLifts
  rw [h, strip_cut]
  simp
theorem mayEnter_of (hl : P.laysLater = false) (hb : P.bearsReflect = false) (hd : P.doorFits [] = true) : P.mayEnter = true := by
  obtain ⟨c1, c2, c3, c4⟩ := cut_not
  unfold Program.mayEnter
  rw [h]
  simp only [strip_cut, hl, hb, hd, c1, c2, c3, Bool.false_and, Bool.or_false, List.head?_cons, Bool.not_false, Bool.or_true, Bool.and_true, List.contains_nil, beq_self_eq_true]
theorem liftsFinal_of : false = P.liftsFinal := by
  obtain ⟨c1, c2, c3, c4⟩ := cut_not
  unfold Program.liftsFinal
  rw [headLifts_of h, h]
  simp only [List.head?_cons, List.contains_nil, Bool.or_false]
  have : ((some "cut".toList : Option (List Char)) == some "carried".toList) = false := c3
  rw [this]; rfl
theorem make_of : P.make = some .cut := by
  obtain ⟨c1, c2, c3, c4⟩ := cut_not
  unfold Program.make
  rw [h]
  simp only [c1, c2, c4, Bool.or_self, Bool.true_or, if_true]
  rfl
end

/-- A row's closed facts, without the four cells that walk all that the function reaches. -/
def lightFacts (P : Program) (fn : Func) (s : ChangeSpec) (c : OpenClaim) : Bool :=
  (c.wf (OpenSpec.ofChange s) && mapsRowed P && fn.params.all (P.readableRec ·) && namedTie P c.named s.vars &&
  (c.stops == []) && (P.stops == []) && (c.knobs == []) && (P.stopKnobs == [])) &&
  ((c.maps == (fn.params.toList ++ s.plain.varTypes P).any (P.mapsRec ·)) && (c.ifaces == (fn.params.toList ++ s.plain.varTypes P).any (P.ifacesRec ·)) && (c.mapsOut == P.mapsAmong fn.resultTypes.toList) &&
  (c.loops == (fn.params.toList ++ s.plain.varTypes P).any (P.loopsFrom ·)) && (c.wideKeys == (fn.params.toList ++ s.plain.varTypes P ++ fn.resultTypes.toList).any (P.wideKeysFrom ·)) &&
  s.vars.all (P.varReadable ·) && fn.resultTypes.all (fun t => P.readableRec t && decide (t < P.types.size)) && (c.ifacesOut == fn.resultTypes.toList.any (P.ifacesRec ·)) && (c.loopsOut == fn.resultTypes.toList.any (P.loopsFrom ·)) && (c.plainKeys == P.plainKeys) && c.shortTexts.isNone) &&
  (P.stopsHeard && (c.kinds == (if c.domain.isEmpty then [] else fn.params.toList.map fun t => match P.underlying t with | some (.int k) => some k | _ => none)) && (c.pinned == c.pinnedBy) &&
  (c.veiled == (fn.params.toList ++ s.plain.varTypes P ++ fn.resultTypes.toList).any (P.veiledRec ·)) && c.veiledFits P fn.params.toList (fn.params.toList ++ s.plain.varTypes P ++ fn.resultTypes.toList))
theorem joined_of {P : Program} {f : Nat} {fn : Func} {s : ChangeSpec} {c : OpenClaim} (hl : laidOutB P = true) (h : lightFacts P fn s c = true) (he : P.mayEnter = true) (hf : c.lifted = P.liftsFinal) (hm : P.make = some c.make)
    (h1 : c.inPlace = P.inPlace f) (h2 : c.unfollowed = P.unfollowed f) (h3 : c.recurses = P.recurses f) (h4 : c.named = P.varsNamed f) : joinedFacts P f fn s c = true := by
  simp only [lightFacts, Bool.and_eq_true, beq_iff_eq] at h
  obtain ⟨⟨⟨⟨⟨⟨⟨⟨⟨g0, g1⟩, g2⟩, g3⟩, g4⟩, g5⟩, g6⟩, g7⟩, ⟨⟨⟨⟨⟨⟨⟨⟨⟨⟨m0, m1⟩, m2⟩, m3⟩, m4⟩, m5⟩, m6⟩, m7⟩, m8⟩, m9⟩, m10⟩⟩, ⟨⟨⟨⟨q0, q1⟩, q2⟩, q3⟩, q4⟩⟩ := h
  simp only [joinedFacts, Bool.and_eq_true, beq_iff_eq]
  exact ⟨⟨⟨⟨⟨⟨⟨⟨⟨⟨⟨⟨⟨⟨⟨⟨⟨⟨⟨⟨⟨⟨⟨⟨⟨⟨⟨⟨⟨⟨⟨g0, hl⟩, g1⟩, g2⟩, g3⟩, g4⟩, g5⟩, g6⟩, g7⟩, h1⟩, h2⟩, h3⟩, h4⟩, m0⟩, m1⟩, m2⟩, m3⟩, m4⟩, m5⟩, m6⟩, m7⟩, m8⟩, m9⟩, m10⟩, q0⟩, he⟩, hf⟩, hm⟩, q1⟩, q2⟩, q3⟩, q4⟩
end Go.Proofs.Ytnfagphepkeedaa
end
section
namespace Go.Proofs.Ytnfagphepkeedaa
open Go.RowKit

def TELLS0 : List (List Nat × Bool × Bool × List Nat) := [([], true, false, []),
  ([], true, false, []),
  ([1], false, false, []),
  ([6, 6, 7, 8, 8, 9, 10, 9, 11, 9, 7], false, false, []),
  ([12, 13, 14, 15, 17, 16, 15, 14], false, false, []),
  ([12, 14, 18, 19, 20, 20, 17, 21, 20, 16, 23, 22, 24, 25, 22, 16, 24, 23, 22, 14], false, false, []),
  ([12], false, false, []),
  ([26, 27, 28, 29], false, false, []),
  ([25], false, false, []),
  ([22, 29], false, false, []),
  ([24, 30], false, false, []),
  ([31, 10], false, false, []),
  ([], false, false, []),
  ([32], false, false, []),
  ([26, 33, 28, 29, 17, 34], false, false, []),
  ([35, 36, 37, 39], false, false, []),
  ([25, 40, 41, 39, 43, 39, 42], false, false, []),
  ([], false, false, []),
  ([44, 39, 40], false, false, []),
  ([], false, false, []),
  ([34], false, false, []),
  ([], false, false, []),
  ([20], false, false, []),
  ([19], false, false, []),
  ([45, 46], false, false, []),
  ([40], false, false, []),
  ([], false, false, []),
  ([48, 49, 33, 50], false, false, []),
  ([51], false, false, []),
  ([], false, false, []),
  ([], false, false, []),
  ([], false, true, []),
  ([], false, false, []),
  ([15, 49, 50, 52, 50, 53], false, false, []),
  ([], false, false, []),
  ([], false, true, []),
  ([], false, false, []),
  ([38], false, false, []),
  ([54], false, false, []),
  ([], false, true, [])]
set_option maxRecDepth 100000 in
theorem tells_eq0 : ((Try.prog.funcs.toList.drop 0).take 40).map (tellOf Try.prog) = TELLS0 := by kernel_rfl
def TELLS1 : List (List Nat × Bool × Bool × List Nat) := [([], false, false, []),
  ([], false, false, []),
  ([55, 56], false, false, []),
  ([], false, false, []),
  ([], false, false, []),
  ([], false, true, []),
  ([47], false, false, []),
  ([], false, false, []),
  ([15], false, false, []),
  ([51], false, false, []),
  ([58, 57], false, false, []),
  ([], false, false, []),
  ([], false, false, []),
  ([54, 49, 50, 50], false, false, []),
  ([], false, false, []),
  ([], true, false, []),
  ([59], false, false, []),
  ([51, 60, 49], false, false, []),
  ([], false, false, []),
  ([61, 61, 61], false, false, []),
  ([], false, false, []),
  ([], false, false, []),
  ([], true, false, []),
  ([], true, false, []),
  ([], true, false, []),
  ([], true, false, []),
  ([], true, false, []),
  ([], true, false, []),
  ([], true, false, []),
  ([], true, false, []),
  ([], true, false, []),
  ([], true, false, []),
  ([], true, false, []),
  ([], true, false, []),
  ([], true, false, []),
  ([], true, false, []),
  ([], true, false, []),
  ([], true, false, []),
  ([], true, false, [])]
set_option maxRecDepth 100000 in
theorem tells_eq1 : ((Try.prog.funcs.toList.drop 40).take 39).map (tellOf Try.prog) = TELLS1 := by kernel_rfl
def TELLS : List (List Nat × Bool × Bool × List Nat) := TELLS0 ++ TELLS1
theorem tells_size : Try.prog.funcs.toList.length = 79 := by kernel_rfl
theorem split_at {α : Type} (l : List α) (i n : Nat) : (l.drop i) = (l.drop i).take n ++ l.drop (i + n) := by
  rw [← List.drop_drop]; exact (List.take_append_drop n _).symm
theorem tells_eq : Try.prog.funcs.toList.map (tellOf Try.prog) = TELLS := by
  have h0 : Try.prog.funcs.toList = Try.prog.funcs.toList.drop 0 := rfl
  rw [h0]
  rw [split_at Try.prog.funcs.toList 0 40, List.map_append, tells_eq0]
  rw [split_at Try.prog.funcs.toList 40 39, List.map_append, tells_eq1]
  rw [List.drop_eq_nil_of_le (by rw [tells_size]; omega)]
  simp [TELLS]
def initSigns : List Nat := [104, 97, 114, 110, 101, 115, 115, 32, 57, 50, 51, 48, 97, 100, 97, 98, 49, 100, 99, 98, 52, 97, 98, 98, 50, 52, 54, 54, 49, 100, 55, 99, 98, 98, 57, 97, 49, 51, 100, 57, 98, 99, 53, 97, 98, 101, 57, 102, 49, 55, 55, 102, 100, 57, 57, 55, 49, 50, 48, 57, 56, 50, 51, 99, 99, 50, 55, 100, 99, 53, 55, 53, 32, 99, 117, 116, 32, 97, 116, 32, 116, 104, 111, 108, 101, 112, 105, 110, 47, 116, 104, 111, 108, 101, 112, 105, 110, 108, 97, 119, 50, 52, 46, 69, 110, 116, 114, 121, 67, 111, 112, 105, 101, 115, 32, 116, 104, 111, 108, 101, 112, 105, 110, 47, 116, 104, 111, 108, 101, 112, 105, 110, 108, 97, 119, 50, 51, 46, 76, 105, 110, 107, 76, 97, 116, 101, 114, 32, 116, 104, 111, 108, 101, 112, 105, 110, 47, 116, 104, 111, 108, 101, 112, 105, 110, 108, 97, 119, 50, 51, 46, 76, 105, 110, 107, 67, 104, 97, 110, 103, 101, 115]
set_option maxRecDepth 100000 in
theorem init_is : Try.prog.initOrder = String.ofList (initSigns.map Char.ofNat) := by kernel_rfl
theorem init_list : Try.prog.initOrder.toList = initSigns.map Char.ofNat := by rw [init_is]; exact String.toList_ofList
theorem cut_word : ("cut").toList = [99, 117, 116].map Char.ofNat := by decide +kernel
theorem cut_head : (behindMainWord (wordsSigns (initSigns.map Char.ofNat))).head? = some ([99, 117, 116].map Char.ofNat) := by kernel_rfl
theorem behind_main : ∃ rest, behindMainWord (wordsSigns Try.prog.initOrder.toList) = "cut".toList :: rest := by
  have h := cut_head
  rw [init_list, cut_word]
  cases hb : behindMainWord (wordsSigns (initSigns.map Char.ofNat)) with
  | nil => rw [hb] at h; cases h
  | cons c r => rw [hb] at h; simp only [List.head?_cons, Option.some.injEq] at h; exact ⟨r, by rw [h]⟩
theorem lays_later : Try.prog.laysLater = false := by kernel_rfl
theorem bears_reflect : Try.prog.bearsReflect = false := by kernel_rfl
theorem door_fits : Try.prog.doorFits [] = true := by kernel_rfl
theorem may_enter : Try.prog.mayEnter = true := by
  obtain ⟨rest, h⟩ := behind_main
  exact mayEnter_of h lays_later bears_reflect door_fits
theorem lifts_final : false = Try.prog.liftsFinal := by
  obtain ⟨rest, h⟩ := behind_main
  exact liftsFinal_of h
theorem make_cut : Try.prog.make = some .cut := by
  obtain ⟨rest, h⟩ := behind_main
  exact make_of h
end Go.Proofs.Ytnfagphepkeedaa
end
section
namespace Go.Proofs.Ytnfagphepkeedaa
open Go.RowKit
namespace CellLinkLater
def C : List Nat := [4, 12, 13, 14, 15, 16, 17, 25, 26, 28, 29, 32, 33, 34, 35, 36, 37, 38, 39, 40, 41, 42, 43, 49, 50, 51, 52, 53, 54, 55, 56, 57, 58, 59, 60, 61]
theorem quiet : quietSet1 TELLS 55 C = true := by decide +kernel
theorem mem : 4 ∈ C := by decide
theorem unf : true = Try.prog.unfollowed 4 := unfollowed_true (g := 35) tells_eq 9 (by decide +kernel) (by decide +kernel) (by decide +kernel)
theorem rec : true = Try.prog.recurses 4 := recurses_true_of_unfollowed unf
theorem light : lightFacts Try.pinned.checked.prog Try.f4 Rows.linkLaterSpec Rows.linkLaterRow = true := by kernel_rfl
theorem lifted : Rows.linkLaterRow.lifted = Try.pinned.checked.prog.liftsFinal := lifts_final
theorem made : Try.pinned.checked.prog.make = some Rows.linkLaterRow.make := make_cut
theorem inPl : [Try.f55.name] = Try.prog.inPlace 4 := inPlace_one tells_eq (g0 := 55) 53 [61, 59, 56, 55, 42, 43, 41, 40, 25, 16, 34, 17, 29, 28, 53, 52, 60, 57, 58, 50, 51, 49, 39, 54, 38, 37, 36, 35, 15, 33, 26, 14, 32, 13, 12, 4] (by decide +kernel) (by decide +kernel) (by decide +kernel) Try.func55
theorem closed : joinedFacts Try.pinned.checked.prog 4 Try.f4 Rows.linkLaterSpec Rows.linkLaterRow = true :=
  joined_of Try.laidOut light may_enter lifted made inPl unf rec (varsNamed_nil1 tells_eq quiet mem Try.func55 (by decide +kernel))
theorem named : Try.pinned.checked.prog.funcNamed Rows.linkLaterRow.func = some 4 := by kernel_rfl
theorem inst : Try.f4.isInstance Try.pinned.checked.prog Rows.linkLaterRow.origin Rows.linkLaterRow.targs := of_decide_eq_true (by kernel_rfl)
theorem wrap : Try.f4.isWrapper Try.pinned.checked.prog Rows.linkLaterRow.wrapper Rows.linkLaterRow.mainSum := by unfold Func.isWrapper; first | (rw [if_pos (by decide +kernel)]; kernel_rfl) | (rw [if_neg (by decide +kernel)]; exact ⟨rfl, rfl⟩)
end CellLinkLater
end Go.Proofs.Ytnfagphepkeedaa
end
