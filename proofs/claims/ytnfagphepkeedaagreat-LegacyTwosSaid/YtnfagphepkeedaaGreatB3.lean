/-
  Contracts of fault's functions and of the cursor's over abstract values. Contracts of the cursor's reading functions and of varint's. Contracts of varint's reading functions. Contracts of the pen's writer. Contracts of the reference's reader (a value), and of its numbers. Contracts of the reference's number readers, and of varint.Get.
  Contracts of zigzag's numbers and lists, and of its reference's. Contracts of the functions on rising lists: zigzag.Rises, steps, RisingSize, PutRising, and the reference's Rises. Contracts of zigzag.ReadRising and of its reference. Contracts of the reference's lists: Same, Bytes; zigzag.Put and Read; live of chapter 5.
  Contracts of chapter 6: bytes with their number, lists, fixed numbers. Contracts of chapter 6: lists; the reference's. Contracts of chapter 6: the reference's; fixed numbers written; live. Contracts of the pen's fixed numbers; live of chapter 6.
  Contracts of chapter 22: differences of falling lists. Contracts of chapter 22: falling lists read; the reference's; live.
  Contracts of chapter 23: which links are well-formed, how they are written.
  Contracts of chapter 23: links read, by the code and by the reference.
  Words over any program: rows that are given and grow; values told less exactly within.
  Contracts of chapter 23: the reference's links; links extended; live.
  The seat's own two facts on its program.
  From a law told over abstract values to calls in a world; how arguments are told.
  Chapter 23: LinkReads, LinkWrites.
  Contracts of chapter 24: entries' heads, by the code and by the reference; live.
  Contracts of entries, many: law24.Many, Total, Join by the reference, All.
  Contract of entry.Deal.
  Contracts of epoch and of its reference.
  Plain laws of chapter 11: tokens. No program.
  Plain laws of things that are read to the end; tokens and the bytes that they make. No program.
  Contracts of chapter 11: tokens, one by one.
  Contracts of chapters 11 and 12: tokens by the reference; expanding tokens.
  Plain laws of chapter 12: the bytes of written tokens, how many they are. No program.
  Contracts of chapter 11: tokens written.
  Contracts of chapter 11: tokens written by the reference, tokens read.
  Contracts of chapter 11: all tokens of some bytes; are tokens the same; live.
-/
import Derived.Test.YtnfagphepkeedaaGreatB1
import Derived.Test.YtnfagphepkeedaaGreatB2
import Derived.Test.YtnfagphepkeedaaGreatRows
set_option linter.all false
set_option linter.unusedSimpArgs false
set_option linter.unusedVariables false
set_option linter.unnecessarySimpa false
section
section
namespace Go.Proofs.YtnfagphepkeedaaGreat
theorem clo {p : Prop} (h : p := by (intros; simp [flt])) : p := h

abbrev iA (n : Int) : AV := .lit (.int .i64 n)
abbrev uA (n : Int) : AV := .lit (.int .u64 n)
abbrev bA (b : Bool) : AV := .lit (.bool b)
abbrev slA (k : IntKind) (l : List Int) : AV := .sl .none 1 (ints k l)
abbrev fltA (f : Int × Int) : AV := .agg [iA f.1, iA f.2]

theorem fault_Good0 (c a : Int) : Does Tryz.prog 57 [fltA (c, a)] [] (bA (c == 0)) [] := by
  refine Does.runA Tryz.func57 b57 n57 Tryz.ntmps57 ?_; simp only [c57, go_sem, Nat.reduceAdd, Nat.reduceMul, Int.reduceToNat, Nat.reduceLeDiff, Int.reduceLE, Int.reduceLT, ↓reduceIte, Int.reduceBEq, Int.reduceBNe, Int.reduceAdd, Int.reduceSub, Int.reduceMul]; try refine okTr_and rfl ?_
  exact FinK.finA r57 []
theorem fault_Good (c a : Int) : Ct Tryz.prog 57 [fltA (c, a)] [] (fun _ => bA (c == 0)) [] (fun _ => []) := (fault_Good0 c a).toCt clo clo

theorem fault_At0 (c a : Int) : Does Tryz.prog 110 [iA c, iA a] [] (fltA (flt c a)) [] := by
  refine Does.runA Tryz.func110 b110 n110 Tryz.ntmps110 ?_; simp only [c110, go_sem, Nat.reduceAdd, Nat.reduceMul, Int.reduceToNat, Nat.reduceLeDiff, Int.reduceLE, Int.reduceLT, ↓reduceIte, Int.reduceBEq, Int.reduceBNe, Int.reduceAdd, Int.reduceSub, Int.reduceMul]; try refine okTr_and rfl ?_
  refine cdK_split (fun h => ?_) (fun h => ?_)
  · have h' : c = 0 := by simpa using h
    (simp only [go_sem, Nat.reduceAdd, Nat.reduceMul, Int.reduceToNat, Nat.reduceLeDiff, Int.reduceLE, Int.reduceLT, ↓reduceIte, Int.reduceBEq, Int.reduceBNe, Int.reduceAdd, Int.reduceSub, Int.reduceMul]; try refine okTr_and rfl ?_)
    ((refine FinK.finB r110 [] ?_ ?_); (· first | with_reducible rfl | (simp [flt, h']; done) | rfl); (· simp [resAL, resA1, loadA, oneOr, flt, h']))
  · have h' : ¬ c = 0 := by simpa using h
    (simp only [go_sem, Nat.reduceAdd, Nat.reduceMul, Int.reduceToNat, Nat.reduceLeDiff, Int.reduceLE, Int.reduceLT, ↓reduceIte, Int.reduceBEq, Int.reduceBNe, Int.reduceAdd, Int.reduceSub, Int.reduceMul]; try refine okTr_and rfl ?_)
    ((refine FinK.finB r110 [] ?_ ?_); (· first | with_reducible rfl | (simp [flt, h']; done) | rfl); (· simp [resAL, resA1, loadA, oneOr, flt, h']))
theorem fault_At (c a : Int) : Ct Tryz.prog 110 [iA c, iA a] [] (fun _ => fltA (flt c a)) [] (fun _ => []) := (fault_At0 c a).toCt clo clo

def rdr (s : RS) : AObj := .cells [.sl .full 1 (ints .u8 s.l), iA s.at_, iA s.code, iA s.fat]
@[simp] theorem rdr_ren (ρ : Nat → Nat) (s : RS) : (rdr s).ren ρ = rdr s := by simp [rdr, ixs_z]
theorem rdr_dead (s : RS) : rdr s ≠ .dead := by simp [rdr]
theorem Reader_Good0 (s : RS) : Does Tryz.prog 53 [.ref 0 0] [rdr s] (bA s.good) [rdr s] := by
  refine Does.runA Tryz.func53 b53 n53 Tryz.ntmps53 ?_; simp only [c53, go_sem, Nat.reduceAdd, Nat.reduceMul, Int.reduceToNat, Nat.reduceLeDiff, Int.reduceLE, Int.reduceLT, ↓reduceIte, Int.reduceBEq, Int.reduceBNe, Int.reduceAdd, Int.reduceSub, Int.reduceMul, rdr]; try refine okTr_and rfl ?_
  refine CallK.p (fault_Good _ _) ?_
  (simp only [go_sem, Nat.reduceAdd, Nat.reduceMul, Int.reduceToNat, Nat.reduceLeDiff, Int.reduceLE, Int.reduceLT, ↓reduceIte, Int.reduceBEq, Int.reduceBNe, Int.reduceAdd, Int.reduceSub, Int.reduceMul]; try refine okTr_and rfl ?_)
  ((refine FinK.finB r53 [0] ?_ ?_); (· first | with_reducible rfl | (simp [rdr, RS.good]; done) | rfl); (· simp [resAL, resA1, loadA, oneOr, rdr, RS.good]))
theorem Reader_Good (s : RS) (i : Nat) : Ct Tryz.prog 53 [.ref i 0] [(i, rdr s)] (fun _ => bA s.good) [] (fun _ => []) := Ct.r1 (Reader_Good0 s) i clo (fun ρ => rdr_ren ρ s) (rdr_dead s) clo

theorem Reader_Fault0 (s : RS) : Does Tryz.prog 56 [.ref 0 0] [rdr s] (fltA (s.code, s.fat)) [rdr s] := by
  refine Does.runA Tryz.func56 b56 n56 Tryz.ntmps56 ?_; simp only [c56, go_sem, Nat.reduceAdd, Nat.reduceMul, Int.reduceToNat, Nat.reduceLeDiff, Int.reduceLE, Int.reduceLT, ↓reduceIte, Int.reduceBEq, Int.reduceBNe, Int.reduceAdd, Int.reduceSub, Int.reduceMul, rdr]; try refine okTr_and rfl ?_
  ((refine FinK.finB r56 [0] ?_ ?_); (· first | with_reducible rfl | (simp [rdr]; done) | rfl); (· simp [resAL, resA1, loadA, oneOr, rdr]))
theorem Reader_Fault (s : RS) (i : Nat) : Ct Tryz.prog 56 [.ref i 0] [(i, rdr s)] (fun _ => fltA (s.code, s.fat)) [] (fun _ => []) := Ct.r1 (Reader_Fault0 s) i clo (fun ρ => rdr_ren ρ s) (rdr_dead s) clo

theorem Reader_At0 (s : RS) : Does Tryz.prog 30 [.ref 0 0] [rdr s] (iA s.at_) [rdr s] := by
  refine Does.runA Tryz.func30 b30 n30 Tryz.ntmps30 ?_; simp only [c30, go_sem, Nat.reduceAdd, Nat.reduceMul, Int.reduceToNat, Nat.reduceLeDiff, Int.reduceLE, Int.reduceLT, ↓reduceIte, Int.reduceBEq, Int.reduceBNe, Int.reduceAdd, Int.reduceSub, Int.reduceMul, rdr]; try refine okTr_and rfl ?_
  ((refine FinK.finB r30 [0] ?_ ?_); (· first | with_reducible rfl | (simp [rdr]; done) | rfl); (· simp [resAL, resA1, loadA, oneOr, rdr]))
theorem Reader_At (s : RS) (i : Nat) : Ct Tryz.prog 30 [.ref i 0] [(i, rdr s)] (fun _ => iA s.at_) [] (fun _ => []) := Ct.r1 (Reader_At0 s) i clo (fun ρ => rdr_ren ρ s) (rdr_dead s) clo

theorem Reader_Left0 (s : RS) (h : s.ok) : Does Tryz.prog 111 [.ref 0 0] [rdr s] (iA s.left) [rdr s] := by
  obtain ⟨h1, h2, h3⟩ := h
  have e : IntKind.i64.wrap ((s.l.length : Int) - s.at_) = s.left := by rw [IntWalk.i64_in _ (by omega)]; rfl
  refine Does.runA Tryz.func111 b111 n111 Tryz.ntmps111 ?_; simp only [c111, go_sem, Nat.reduceAdd, Nat.reduceMul, Int.reduceToNat, Nat.reduceLeDiff, Int.reduceLE, Int.reduceLT, ↓reduceIte, Int.reduceBEq, Int.reduceBNe, Int.reduceAdd, Int.reduceSub, Int.reduceMul, rdr, ints_length, e]; try refine okTr_and rfl ?_
  ((refine FinK.finB r111 [0] ?_ ?_); (· first | with_reducible rfl | (simp [rdr]; done) | rfl); (· simp [resAL, resA1, loadA, oneOr, rdr]))
theorem Reader_Left (s : RS) (i : Nat) (h : s.ok) : Ct Tryz.prog 111 [.ref i 0] [(i, rdr s)] (fun _ => iA s.left) [] (fun _ => []) := Ct.r1 (Reader_Left0 s h) i clo (fun ρ => rdr_ren ρ s) (rdr_dead s) clo

theorem Reader_Fail0 (s : RS) (c a : Int) : Does Tryz.prog 38 [.ref 0 0, iA c, iA a] [rdr s] (.tup []) [rdr (s.fail c a)] := by
  refine Does.runA Tryz.func38 b38 n38 Tryz.ntmps38 ?_; simp only [c38, go_sem, Nat.reduceAdd, Nat.reduceMul, Int.reduceToNat, Nat.reduceLeDiff, Int.reduceLE, Int.reduceLT, ↓reduceIte, Int.reduceBEq, Int.reduceBNe, Int.reduceAdd, Int.reduceSub, Int.reduceMul]; try refine okTr_and rfl ?_
  refine CallK.r1 (Reader_Good s 0) rfl ?_
  (simp only [go_sem, Nat.reduceAdd, Nat.reduceMul, Int.reduceToNat, Nat.reduceLeDiff, Int.reduceLE, Int.reduceLT, ↓reduceIte, Int.reduceBEq, Int.reduceBNe, Int.reduceAdd, Int.reduceSub, Int.reduceMul]; try refine okTr_and rfl ?_)
  refine cdK_split (fun h => ?_) (fun h => ?_)
  · have h' : s.code = 0 := by simpa [RS.good] using h
    (simp only [go_sem, Nat.reduceAdd, Nat.reduceMul, Int.reduceToNat, Nat.reduceLeDiff, Int.reduceLE, Int.reduceLT, ↓reduceIte, Int.reduceBEq, Int.reduceBNe, Int.reduceAdd, Int.reduceSub, Int.reduceMul]; try refine okTr_and rfl ?_)
    refine CallK.p (fault_At c a) ?_
    (simp only [go_sem, Nat.reduceAdd, Nat.reduceMul, Int.reduceToNat, Nat.reduceLeDiff, Int.reduceLE, Int.reduceLT, ↓reduceIte, Int.reduceBEq, Int.reduceBNe, Int.reduceAdd, Int.reduceSub, Int.reduceMul, rdr]; try refine okTr_and rfl ?_)
    ((refine FinK.finB r38 [0] ?_ ?_); (· first | with_reducible rfl | (simp [rdr, RS.fail, h']; done) | rfl); (· simp [resAL, resA1, loadA, oneOr, rdr, RS.fail, h']))
  · have h' : ¬ s.code = 0 := by simpa [RS.good] using h
    (simp only [go_sem, Nat.reduceAdd, Nat.reduceMul, Int.reduceToNat, Nat.reduceLeDiff, Int.reduceLE, Int.reduceLT, ↓reduceIte, Int.reduceBEq, Int.reduceBNe, Int.reduceAdd, Int.reduceSub, Int.reduceMul]; try refine okTr_and rfl ?_)
    ((refine FinK.finB r38 [0] ?_ ?_); (· first | with_reducible rfl | (simp [rdr, RS.fail, h']; done) | rfl); (· simp [resAL, resA1, loadA, oneOr, rdr, RS.fail, h']))
theorem Reader_Fail (s : RS) (c a : Int) (i : Nat) : Ct Tryz.prog 38 [.ref i 0, iA c, iA a] [(i, rdr s)] (fun _ => .tup []) [(i, rdr (s.fail c a))] (fun _ => []) := Ct.u1 (Reader_Fail0 s c a) i clo (fun ρ => rdr_ren ρ s) (fun ρ => rdr_ren ρ _) (rdr_dead s) clo

theorem Reader_Skip0 (s : RS) (n : Int) (hs : s.ok) : Does Tryz.prog 158 [.ref 0 0, iA n] [rdr s] (bA (s.skip n).2) [rdr (s.skip n).1] := by
  refine Does.runA Tryz.func158 b158 n158 Tryz.ntmps158 ?_; simp only [c158, go_sem, Nat.reduceAdd, Nat.reduceMul, Int.reduceToNat, Nat.reduceLeDiff, Int.reduceLE, Int.reduceLT, ↓reduceIte, Int.reduceBEq, Int.reduceBNe, Int.reduceAdd, Int.reduceSub, Int.reduceMul]; try refine okTr_and rfl ?_
  refine CallK.r1 (Reader_Good s 0) rfl ?_
  (simp only [go_sem, Nat.reduceAdd, Nat.reduceMul, Int.reduceToNat, Nat.reduceLeDiff, Int.reduceLE, Int.reduceLT, ↓reduceIte, Int.reduceBEq, Int.reduceBNe, Int.reduceAdd, Int.reduceSub, Int.reduceMul]; try refine okTr_and rfl ?_)
  refine cdK_split (fun h => ?_) (fun h => ?_)
  · have h' : ¬ s.code = 0 := by simpa [RS.good] using h
    (simp only [go_sem, Nat.reduceAdd, Nat.reduceMul, Int.reduceToNat, Nat.reduceLeDiff, Int.reduceLE, Int.reduceLT, ↓reduceIte, Int.reduceBEq, Int.reduceBNe, Int.reduceAdd, Int.reduceSub, Int.reduceMul]; try refine okTr_and rfl ?_)
    ((refine FinK.finB r158 [0] ?_ ?_); (· first | with_reducible rfl | (simp [rdr, RS.skip, h']; done) | rfl); (· simp [resAL, resA1, loadA, oneOr, rdr, RS.skip, h']))
  · have h' : s.code = 0 := by simpa [RS.good] using h
    (simp only [go_sem, Nat.reduceAdd, Nat.reduceMul, Int.reduceToNat, Nat.reduceLeDiff, Int.reduceLE, Int.reduceLT, ↓reduceIte, Int.reduceBEq, Int.reduceBNe, Int.reduceAdd, Int.reduceSub, Int.reduceMul]; try refine okTr_and rfl ?_)
    refine cdK_split (fun h => ?_) (fun h => ?_)
    · have h2 : n < 0 := by simpa using h
      (simp only [go_sem, Nat.reduceAdd, Nat.reduceMul, Int.reduceToNat, Nat.reduceLeDiff, Int.reduceLE, Int.reduceLT, ↓reduceIte, Int.reduceBEq, Int.reduceBNe, Int.reduceAdd, Int.reduceSub, Int.reduceMul, rdr]; try refine okTr_and rfl ?_)
      refine CallK.u1 (Reader_Fail s 17 s.at_ 0) rfl ?_
      (simp only [go_sem, Nat.reduceAdd, Nat.reduceMul, Int.reduceToNat, Nat.reduceLeDiff, Int.reduceLE, Int.reduceLT, ↓reduceIte, Int.reduceBEq, Int.reduceBNe, Int.reduceAdd, Int.reduceSub, Int.reduceMul]; try refine okTr_and rfl ?_)
      ((refine FinK.finB r158 [0] ?_ ?_); (· first | with_reducible rfl | (simp [rdr, RS.skip, h', h2]; done) | rfl); (· simp [resAL, resA1, loadA, oneOr, rdr, RS.skip, h', h2]))
    · have h2 : ¬ n < 0 := by simpa using h
      (simp only [go_sem, Nat.reduceAdd, Nat.reduceMul, Int.reduceToNat, Nat.reduceLeDiff, Int.reduceLE, Int.reduceLT, ↓reduceIte, Int.reduceBEq, Int.reduceBNe, Int.reduceAdd, Int.reduceSub, Int.reduceMul]; try refine okTr_and rfl ?_)
      refine CallK.r1 (Reader_Left s 0 hs) rfl ?_
      (simp only [go_sem, Nat.reduceAdd, Nat.reduceMul, Int.reduceToNat, Nat.reduceLeDiff, Int.reduceLE, Int.reduceLT, ↓reduceIte, Int.reduceBEq, Int.reduceBNe, Int.reduceAdd, Int.reduceSub, Int.reduceMul]; try refine okTr_and rfl ?_)
      refine cdK_split (fun h => ?_) (fun h => ?_)
      · have h3 : s.left < n := by simpa using h
        (simp only [go_sem, Nat.reduceAdd, Nat.reduceMul, Int.reduceToNat, Nat.reduceLeDiff, Int.reduceLE, Int.reduceLT, ↓reduceIte, Int.reduceBEq, Int.reduceBNe, Int.reduceAdd, Int.reduceSub, Int.reduceMul, rdr, ints_length]; try refine okTr_and rfl ?_)
        refine CallK.u1 (Reader_Fail s 1 s.l.length 0) rfl ?_
        (simp only [go_sem, Nat.reduceAdd, Nat.reduceMul, Int.reduceToNat, Nat.reduceLeDiff, Int.reduceLE, Int.reduceLT, ↓reduceIte, Int.reduceBEq, Int.reduceBNe, Int.reduceAdd, Int.reduceSub, Int.reduceMul]; try refine okTr_and rfl ?_)
        ((refine FinK.finB r158 [0] ?_ ?_); (· first | with_reducible rfl | (simp [rdr, RS.skip, h', h2, h3]; done) | rfl); (· simp [resAL, resA1, loadA, oneOr, rdr, RS.skip, h', h2, h3]))
      · have h3 : ¬ s.left < n := by simpa using h
        have e : IntKind.i64.wrap (s.at_ + n) = s.at_ + n := by obtain ⟨q1, q2, q3⟩ := hs; unfold RS.left at h3; exact IntWalk.i64_in _ (by omega)
        (simp only [go_sem, Nat.reduceAdd, Nat.reduceMul, Int.reduceToNat, Nat.reduceLeDiff, Int.reduceLE, Int.reduceLT, ↓reduceIte, Int.reduceBEq, Int.reduceBNe, Int.reduceAdd, Int.reduceSub, Int.reduceMul, rdr, e]; try refine okTr_and rfl ?_)
        ((refine FinK.finB r158 [0] ?_ ?_); (· first | with_reducible rfl | (simp [rdr, RS.skip, h', h2, h3]; done) | rfl); (· simp [resAL, resA1, loadA, oneOr, rdr, RS.skip, h', h2, h3]))
theorem Reader_Skip (s : RS) (n : Int) (i : Nat) (hs : s.ok) : Ct Tryz.prog 158 [.ref i 0, iA n] [(i, rdr s)] (fun _ => bA (s.skip n).2) [(i, rdr (s.skip n).1)] (fun _ => []) := Ct.u1 (Reader_Skip0 s n hs) i clo (fun ρ => rdr_ren ρ s) (fun ρ => rdr_ren ρ _) (rdr_dead s) clo

end Go.Proofs.YtnfagphepkeedaaGreat
end
section
namespace Go.Proofs.YtnfagphepkeedaaGreat
open Go.RowKit

abbrev u8A (n : Int) : AV := .lit (.int .u8 n)
theorem u8_in_list {l : List Int} (i : Nat) (h : i < l.length) : (ints .u8 l).getD i .any = u8A (l.getD i 0) := ints_getD .u8 l i h

theorem Reader_Byte0 (s : RS) (hs : s.ok) : Does Tryz.prog 157 [.ref 0 0] [rdr s] (u8A s.byte.2) [rdr s.byte.1] := by
  refine Does.runA Tryz.func157 b157 n157 Tryz.ntmps157 ?_; simp only [c157, go_sem, Nat.reduceAdd, Nat.reduceMul, Int.reduceToNat, Nat.reduceLeDiff, Int.reduceLE, Int.reduceLT, ↓reduceIte, Int.reduceBEq, Int.reduceBNe, Int.reduceAdd, Int.reduceSub, Int.reduceMul]; try refine okTr_and rfl ?_
  refine CallK.u1 (Reader_Skip s 1 0 hs) rfl ?_
  (simp only [go_sem, Nat.reduceAdd, Nat.reduceMul, Int.reduceToNat, Nat.reduceLeDiff, Int.reduceLE, Int.reduceLT, ↓reduceIte, Int.reduceBEq, Int.reduceBNe, Int.reduceAdd, Int.reduceSub, Int.reduceMul]; try refine okTr_and rfl ?_)
  refine cdK_split (fun h => ?_) (fun h => ?_)
  · have h' : ¬ (s.skip 1).2 = true := by simpa using h
    (simp only [go_sem, Nat.reduceAdd, Nat.reduceMul, Int.reduceToNat, Nat.reduceLeDiff, Int.reduceLE, Int.reduceLT, ↓reduceIte, Int.reduceBEq, Int.reduceBNe, Int.reduceAdd, Int.reduceSub, Int.reduceMul]; try refine okTr_and rfl ?_)
    ((refine FinK.finB r157 [0] ?_ ?_); (· first | with_reducible rfl | (simp [rdr, RS.byte, h']; done) | rfl); (· simp [resAL, resA1, loadA, oneOr, rdr, RS.byte, h']))
  · have h' : (s.skip 1).2 = true := by simpa using h
    obtain ⟨h1, h2, h3, h4⟩ := skip_yes h'
    obtain ⟨a, b, c⟩ := hs
    unfold RS.left at h3
    have e : IntKind.i64.wrap (s.at_ + 1 - 1) = s.at_ := by rw [IntWalk.i64_in _ (by omega)]; omega
    have eq1 : s.at_.toNat < s.l.length := by omega
    have eq2 : s.at_ < s.l.length := by omega
    (simp only [go_sem, Nat.reduceAdd, Nat.reduceMul, Int.reduceToNat, Nat.reduceLeDiff, Int.reduceLE, Int.reduceLT, ↓reduceIte, Int.reduceBEq, Int.reduceBNe, Int.reduceAdd, Int.reduceSub, Int.reduceMul, h4, rdr, e, ints_length, u8_in_list _ eq1, a, eq2]; try refine okTr_and rfl ?_)
    ((refine FinK.finB r157 [0] ?_ ?_); (· first | with_reducible rfl | (simp [rdr, RS.byte, h', h4]; done) | rfl); (· simp [resAL, resA1, loadA, oneOr, rdr, RS.byte, h', h4]))
theorem Reader_Byte (s : RS) (i : Nat) (hs : s.ok) : Ct Tryz.prog 157 [.ref i 0] [(i, rdr s)] (fun _ => u8A s.byte.2) [(i, rdr s.byte.1)] (fun _ => []) := Ct.u1 (Reader_Byte0 s hs) i clo (fun ρ => rdr_ren ρ s) (fun ρ => rdr_ren ρ _) (rdr_dead s) clo

theorem cursor_New0 (l : List Int) : Does Tryz.prog 28 [slA .u8 l] [] (.ref 0 0) [rdr (RS.new l)] := by
  have e : (ints .u8 l).take l.length = ints .u8 l := List.take_of_length_le (by simp [ints])
  refine Does.runA Tryz.func28 b28 n28 Tryz.ntmps28 ?_; simp only [c28, go_sem, Nat.reduceAdd, Nat.reduceMul, Int.reduceToNat, Nat.reduceLeDiff, Int.reduceLE, Int.reduceLT, ↓reduceIte, Int.reduceBEq, Int.reduceBNe, Int.reduceAdd, Int.reduceSub, Int.reduceMul, ints_length, sli_hm, Int.toNat_natCast, e]; try refine okTr_and rfl ?_
  (repeat ((with_reducible refine And.intro ?_ ?_); (· exact sd)))
  ((refine FinK.finB r28 [0] ?_ ?_); (· first | with_reducible rfl | (simp [rdr, RS.new]; done) | rfl); (· simp [resAL, resA1, loadA, oneOr, rdr, RS.new]))
theorem cursor_New (l : List Int) : Ct Tryz.prog 28 [slA .u8 l] [] (fun n => .ref n 0) [] (fun _ => [rdr (RS.new l)]) := Ct.n (cursor_New0 l) clo cl cl

theorem Reader_Take0 (s : RS) (n : Int) (hs : s.ok) : Does Tryz.prog 106 [.ref 0 0, iA n] [rdr s] (slA .u8 (s.take n).2) [rdr (s.take n).1] := by
  refine Does.runA Tryz.func106 b106 n106 Tryz.ntmps106 ?_; simp only [c106, go_sem, Nat.reduceAdd, Nat.reduceMul, Int.reduceToNat, Nat.reduceLeDiff, Int.reduceLE, Int.reduceLT, ↓reduceIte, Int.reduceBEq, Int.reduceBNe, Int.reduceAdd, Int.reduceSub, Int.reduceMul]; try refine okTr_and rfl ?_
  refine CallK.u1 (Reader_Skip s n 0 hs) rfl ?_
  (simp only [go_sem, Nat.reduceAdd, Nat.reduceMul, Int.reduceToNat, Nat.reduceLeDiff, Int.reduceLE, Int.reduceLT, ↓reduceIte, Int.reduceBEq, Int.reduceBNe, Int.reduceAdd, Int.reduceSub, Int.reduceMul]; try refine okTr_and rfl ?_)
  refine cdK_split (fun h => ?_) (fun h => ?_)
  · have h' : ¬ (s.skip n).2 = true := by simpa using h
    (simp only [go_sem, Nat.reduceAdd, Nat.reduceMul, Int.reduceToNat, Nat.reduceLeDiff, Int.reduceLE, Int.reduceLT, ↓reduceIte, Int.reduceBEq, Int.reduceBNe, Int.reduceAdd, Int.reduceSub, Int.reduceMul]; try refine okTr_and rfl ?_)
    (refine FinK.untag 4 rfl ?_; simp only [untag1_sl, List.set_cons_zero, List.set_cons_succ])
    ((refine FinK.finB r106 [0] ?_ ?_); (· first | with_reducible rfl | (simp [rdr, RS.take, h']; done) | rfl); (· simp [resAL, resA1, loadA, oneOr, rdr, RS.take, h']))
  · have h' : (s.skip n).2 = true := by simpa using h
    obtain ⟨h1, h2, h3, h4⟩ := skip_yes h'
    obtain ⟨a, b, c⟩ := hs
    unfold RS.left at h3
    have e : IntKind.i64.wrap (s.at_ + n - n) = s.at_ := by rw [IntWalk.i64_in _ (by omega)]; omega
    have e2 : (s.at_ + n - s.at_).toNat = n.toNat := by congr 1; omega
    (simp only [go_sem, Nat.reduceAdd, Nat.reduceMul, Int.reduceToNat, Nat.reduceLeDiff, Int.reduceLE, Int.reduceLT, ↓reduceIte, Int.reduceBEq, Int.reduceBNe, Int.reduceAdd, Int.reduceSub, Int.reduceMul, h4, rdr, e, e2, ints_length, a, ints_take, ints_drop]; try refine okTr_and rfl ?_)
    (repeat ((with_reducible refine And.intro ?_ ?_); (· exact sd)))
    (refine FinK.untag 4 rfl ?_; simp only [untag1_sl, List.set_cons_zero, List.set_cons_succ])
    ((refine FinK.finB r106 [0] ?_ ?_); (· first | with_reducible rfl | (simp [rdr, RS.take, h', h4]; done) | rfl); (· simp [resAL, resA1, loadA, oneOr, rdr, RS.take, h', h4]))
theorem Reader_Take (s : RS) (n : Int) (i : Nat) (hs : s.ok) : Ct Tryz.prog 106 [.ref i 0, iA n] [(i, rdr s)] (fun _ => slA .u8 (s.take n).2) [(i, rdr (s.take n).1)] (fun _ => []) := Ct.u1 (Reader_Take0 s n hs) i clo (fun ρ => rdr_ren ρ s) (fun ρ => rdr_ren ρ _) (rdr_dead s) clo

theorem shr7 {y : Int} : y.fdiv (2 ^ min 7 64) = y / 128 := by
  show y.fdiv 128 = y / 128
  rw [Int.fdiv_eq_ediv_of_nonneg _ (by omega)]
theorem varint_Size0 (x : Int) (h0 : 0 ≤ x) (h1 : x < 18446744073709551616) : Does Tryz.prog 150 [uA x] [] (iA (vb x).length) [] := by
  refine Does.runA Tryz.func150 b150 n150 Tryz.ntmps150 ?_; simp only [c150, go_sem, Nat.reduceAdd, Nat.reduceMul, Int.reduceToNat, Nat.reduceLeDiff, Int.reduceLE, Int.reduceLT, ↓reduceIte, Int.reduceBEq, Int.reduceBNe, Int.reduceAdd, Int.reduceSub, Int.reduceMul]; try refine okTr_and rfl ?_
  have hl := (vb_len x).2
  refine loop_of (α := Int × Int) (fun a => [uA a.1, .any, iA 0, iA a.2, .any, .any, .any, .any, .any, .any, .any]) (fun _ => []) (fun a => 0 ≤ a.1 ∧ a.1 < 18446744073709551616 ∧ 1 ≤ a.2 ∧ a.2 + (vb a.1).length = 1 + (vb x).length) (fun a => a.1.toNat) (x, 1) ⟨h0, h1, Int.le_refl _, rfl⟩ (Wk.forget (by simp [leT])) ?_
  rintro ⟨y, k⟩ ⟨y0, y1, k0, hk⟩
  simp only at y0 y1 k0 hk
  have hy := (vb_len y).1
  (simp only [go_sem, Nat.reduceAdd, Nat.reduceMul, Int.reduceToNat, Nat.reduceLeDiff, Int.reduceLE, Int.reduceLT, ↓reduceIte, Int.reduceBEq, Int.reduceBNe, Int.reduceAdd, Int.reduceSub, Int.reduceMul]; try refine okTr_and rfl ?_)
  refine cdK_split (fun h => ?_) (fun h => ?_)
  · have hy2 : 128 ≤ y := by simpa using h
    have ew : IntKind.i64.wrap (k + 1) = k + 1 := IntWalk.i64_in _ (by omega)
    have eb := vb_ge hy2 y1
    (simp only [go_sem, Nat.reduceAdd, Nat.reduceMul, Int.reduceToNat, Nat.reduceLeDiff, Int.reduceLE, Int.reduceLT, ↓reduceIte, Int.reduceBEq, Int.reduceBNe, Int.reduceAdd, Int.reduceSub, Int.reduceMul, shr7, ew]; try refine okTr_and rfl ?_)
    (repeat ((with_reducible refine And.intro ?_ ?_); (· exact sd)))
    refine ⟨(y / 128, k + 1), ⟨by simp only; omega, by simp only; omega, by simp only; omega, ?_⟩, by simp only; omega, Wk.forget (by simp [leT])⟩
    rw [eb] at hk; simp at hk ⊢; omega
  · have hy2 : y < 128 := by simpa using h
    have eb := vb_lt hy2
    rw [eb] at hk
    have ek : k = (vb x).length := by simp at hk; omega
    (simp only [go_sem, Nat.reduceAdd, Nat.reduceMul, Int.reduceToNat, Nat.reduceLeDiff, Int.reduceLE, Int.reduceLT, ↓reduceIte, Int.reduceBEq, Int.reduceBNe, Int.reduceAdd, Int.reduceSub, Int.reduceMul]; try refine okTr_and rfl ?_)
    ((refine FinK.finB r150 [] ?_ ?_); (· first | with_reducible rfl | (simp [ek]; done) | rfl); (· simp [resAL, resA1, loadA, oneOr, ek]))
theorem varint_Size (x : Int) (h0 : 0 ≤ x) (h1 : x < 18446744073709551616) : Ct Tryz.prog 150 [uA x] [] (fun _ => iA (vb x).length) [] (fun _ => []) := (varint_Size0 x h0 h1).toCt clo clo

theorem or128_of {y : Int} (h0 : 0 ≤ y) : bitsI .or .u8 (IntKind.u8.wrap y) 128 = 128 + y % 128 := by
  rw [IntKind.wrap_u8]
  show bits .or .u8 (y % 256) 128 = _
  rw [u8_or _ _ (by omega) (by omega) (by omega) (by omega)]
  have := or128 ⟨(y % 256).toNat, by omega⟩
  simp only at this
  rw [show (128 : Int).toNat = 128 from rfl, this]
  omega
theorem varint_Bytes0 (x : Int) (h0 : 0 ≤ x) (h1 : x < 18446744073709551616) : Does Tryz.prog 85 [uA x] [] (slA .u8 (vb x)) [] := by
  refine Does.runA Tryz.func85 b85 n85 Tryz.ntmps85 ?_; simp only [c85, go_sem, Nat.reduceAdd, Nat.reduceMul, Int.reduceToNat, Nat.reduceLeDiff, Int.reduceLE, Int.reduceLT, ↓reduceIte, Int.reduceBEq, Int.reduceBNe, Int.reduceAdd, Int.reduceSub, Int.reduceMul]; try refine okTr_and rfl ?_
  have hl := (vb_len x).2
  refine loop_of (α := Int × List Int) (fun a => [uA a.1, .any, .any, .sl (.row 0) 1 (ints .u8 a.2), .any, .any, .any, .any, .any, .any, .any, .any, .any, .any, .any, .any, .any, .any, .any]) (fun a => [.row 1 a.2.length]) (fun a => 0 ≤ a.1 ∧ a.1 < 18446744073709551616 ∧ a.2 ++ vb a.1 = vb x) (fun a => a.1.toNat) (x, []) ⟨h0, h1, rfl⟩ ((Wk.row 3 1 rfl (.inl rfl) (Nat.le_refl _)).trans (Wk.forget (by simp [leT, ints]))) ?_
  rintro ⟨y, m⟩ ⟨y0, y1, hk⟩
  simp only at y0 y1 hk
  have hm : m.length ≤ 10 := by rw [← hk] at hl; simp at hl; omega
  (simp only [go_sem, Nat.reduceAdd, Nat.reduceMul, Int.reduceToNat, Nat.reduceLeDiff, Int.reduceLE, Int.reduceLT, ↓reduceIte, Int.reduceBEq, Int.reduceBNe, Int.reduceAdd, Int.reduceSub, Int.reduceMul]; try refine okTr_and rfl ?_)
  refine cdK_split (fun h => ?_) (fun h => ?_)
  · have hy2 : 128 ≤ y := by simpa using h
    have eb := vb_ge hy2 y1
    have e1 : [u8A (128 + y % 128)] = ints .u8 [128 + y % 128] := rfl
    (simp only [go_sem, Nat.reduceAdd, Nat.reduceMul, Int.reduceToNat, Nat.reduceLeDiff, Int.reduceLE, Int.reduceLT, ↓reduceIte, Int.reduceBEq, Int.reduceBNe, Int.reduceAdd, Int.reduceSub, Int.reduceMul, shr7, or128_of y0, e1, ints_append, ints_length]; try refine okTr_and rfl ?_)
    (repeat ((with_reducible refine And.intro ?_ ?_); (· exact sd)))
    refine ⟨(y / 128, m ++ [128 + y % 128]), ⟨by simp only; omega, by simp only; omega, ?_⟩, by simp only; omega, Wk.to (by simp) (by simp [leT])⟩
    rw [← hk, eb]; simp
  · have hy2 : y < 128 := by simpa using h
    have eb := vb_lt hy2
    rw [eb] at hk
    have ew : IntKind.u8.wrap y = y := IntWalk.u8_in _ (by omega)
    have e1 : [u8A y] = ints .u8 [y] := rfl
    (simp only [go_sem, Nat.reduceAdd, Nat.reduceMul, Int.reduceToNat, Nat.reduceLeDiff, Int.reduceLE, Int.reduceLT, ↓reduceIte, Int.reduceBEq, Int.reduceBNe, Int.reduceAdd, Int.reduceSub, Int.reduceMul, ew, e1, ints_append, ints_length]; try refine okTr_and rfl ?_)
    (repeat ((with_reducible refine And.intro ?_ ?_); (· exact sd)))
    (refine FinK.untag 2 rfl ?_; simp only [untag1_sl, List.set_cons_zero, List.set_cons_succ])
    ((refine FinK.finB r85 [] ?_ ?_); (· first | with_reducible rfl | (simp [hk]; done) | rfl); (· simp [resAL, resA1, loadA, oneOr, hk]))
theorem varint_Bytes (x : Int) (h0 : 0 ≤ x) (h1 : x < 18446744073709551616) : Ct Tryz.prog 85 [uA x] [] (fun _ => slA .u8 (vb x)) [] (fun _ => []) := (varint_Bytes0 x h0 h1).toCt cl cl
end Go.Proofs.YtnfagphepkeedaaGreat
end
section
namespace Go.Proofs.YtnfagphepkeedaaGreat
open Go.RowKit

theorem adv0 (s : RS) : s.adv 0 = s := by simp [RS.adv]
theorem RS.ok.adv {s : RS} (h : s.ok) {i : Nat} (hi : i ≤ s.rest.length) : (s.adv i).ok := by
  obtain ⟨a, b, c⟩ := h
  have := rest_len s a b
  exact ⟨by show 0 ≤ s.at_ + (i : Int); omega, by show s.at_ + (i : Int) ≤ s.l.length; omega, c⟩
theorem adv_good (s : RS) (i : Int) : (s.adv i).good = (s.code == 0) := rfl
theorem adv_at (s : RS) (i : Int) : (s.adv i).at_ = s.at_ + i := rfl

theorem or_join' (i : Nat) (hi : i ≤ 9) (x c : Int) (h0 : 0 ≤ x) (h1 : x < 128 ^ i) (c0 : 0 ≤ c) (c1 : c < 128) (c2 : i = 9 → c ≤ 1) :
    bitsI .or .u64 x (IntKind.u64.wrap (IntKind.u64.wrap c * 2 ^ min (7 * (i : Int)).toNat 64)) = x + 128 ^ i * c := by
  have e1 : IntKind.u64.wrap c = c := IntWalk.u64_in _ (by omega)
  have e2 : min (7 * (i : Int)).toNat 64 = 7 * i := by
    omega
  rw [e1, e2]
  exact (or_join i hi x c h0 h1 c0 c1 c2).1
set_option maxRecDepth 100000 in
theorem varint_Read0 (s : RS) (hs : s.ok) (hb : Bys s.l) : Does Tryz.prog 104 [.ref 0 0] [rdr s] (uA s.vint.2) [rdr s.vint.1] := by
  have hs0 := hs
  obtain ⟨a, b, c⟩ := hs
  refine Does.runA Tryz.func104 b104 n104 Tryz.ntmps104 ?_; simp only [c104, go_sem, Nat.reduceAdd, Nat.reduceMul, Int.reduceToNat, Nat.reduceLeDiff, Int.reduceLE, Int.reduceLT, ↓reduceIte, Int.reduceBEq, Int.reduceBNe, Int.reduceAdd, Int.reduceSub, Int.reduceMul]; try refine okTr_and rfl ?_
  refine scope_of (α := Nat × Int) 0 (by rfl) (fun a => [.ref 0 0, .any, uA 0, uA a.2, .any, iA (7 * (a.1 : Int)), iA s.at_, .any, .any, .any, .any, .any, .any, .any, .any, .any, .any, .any, .any, .any, .any, .any, .any, .any, .any, .any, .any, .any, .any, .any, .any, .any, .any, .any, .any, .any, .any, .any, .any, .any, .any, .any, .any, .any, .any, .any, .any, .any, .any, .any, .any, .any, .any, .any]) (fun a => [rdr (s.adv a.1)])
    (fun a => a.1 ≤ 9 ∧ (s.code ≠ 0 → a.1 = 0) ∧ 0 ≤ a.2 ∧ a.2 < 128 ^ a.1 ∧ Upto s a.1 a.2 ∧ a.1 ≤ s.rest.length) (fun a => 10 - a.1) (fun pass => ?_) ?_
  · (simp only [go_sem, Nat.reduceAdd, Nat.reduceMul, Int.reduceToNat, Nat.reduceLeDiff, Int.reduceLE, Int.reduceLT, ↓reduceIte, Int.reduceBEq, Int.reduceBNe, Int.reduceAdd, Int.reduceSub, Int.reduceMul]; try refine okTr_and rfl ?_)
    refine CallK.r1 (Reader_At s 0) rfl ?_
    (simp only [go_sem, Nat.reduceAdd, Nat.reduceMul, Int.reduceToNat, Nat.reduceLeDiff, Int.reduceLE, Int.reduceLT, ↓reduceIte, Int.reduceBEq, Int.reduceBNe, Int.reduceAdd, Int.reduceSub, Int.reduceMul]; try refine okTr_and rfl ?_)
    refine kLab_go (Wk.to ?_ ?_) (pass (0, 0) ⟨by simp, fun _ => rfl, by simp, by simp, upto_zero s hb, by simp⟩)
    · simp [adv0]
    · simp [leT]
  · rintro ⟨i, x⟩ ⟨hi9, hci, x0, x1, hu, hir⟩
    simp only at hi9 hci x0 x1 hu hir
    have hrl := rest_len s a b
    (simp only [go_sem, Nat.reduceAdd, Nat.reduceMul, Int.reduceToNat, Nat.reduceLeDiff, Int.reduceLE, Int.reduceLT, ↓reduceIte, Int.reduceBEq, Int.reduceBNe, Int.reduceAdd, Int.reduceSub, Int.reduceMul]; try refine okTr_and rfl ?_)
    refine CallK.u1 (Reader_Byte (s.adv i) 0 (hs0.adv hir)) rfl ?_
    by_cases hc : s.code = 0
    · cases hd : s.rest.drop i with
      | nil =>
        have hil : s.rest.length ≤ i := by
          rcases Nat.lt_or_ge i s.rest.length with h | h
          · have := congrArg List.length hd; simp at this; omega
          · exact h
        have hB := byte_end s i hc a b (by omega)
        have hv := vint_end hc hu hd
        (simp only [go_sem, Nat.reduceAdd, Nat.reduceMul, Int.reduceToNat, Nat.reduceLeDiff, Int.reduceLE, Int.reduceLT, ↓reduceIte, Int.reduceBEq, Int.reduceBNe, Int.reduceAdd, Int.reduceSub, Int.reduceMul, hB]; try refine okTr_and rfl ?_)
        refine CallK.r1 (Reader_Good _ 0) rfl ?_
        (simp only [go_sem, Nat.reduceAdd, Nat.reduceMul, Int.reduceToNat, Nat.reduceLeDiff, Int.reduceLE, Int.reduceLT, ↓reduceIte, Int.reduceBEq, Int.reduceBNe, Int.reduceAdd, Int.reduceSub, Int.reduceMul, RS.good, show ((1 : Int) == 0) = false from rfl]; try refine okTr_and rfl ?_)
        ((refine FinK.finB r104 [0] ?_ ?_); (· first | with_reducible rfl | (simp [hv]; done) | rfl); (· simp [resAL, resA1, loadA, oneOr, hv]))
      | cons c t =>
        obtain ⟨hB, hle⟩ := byte_good s i c t hc a b hd
        have hcb : 0 ≤ c ∧ c < 256 := by
          have : c ∈ s.rest.drop i := by rw [hd]; exact List.mem_cons_self ..
          exact hb c (List.mem_of_mem_drop (List.mem_of_mem_drop this))
        have hil : i < s.rest.length := by
          rcases Nat.lt_or_ge i s.rest.length with h | h
          · exact h
          · rw [List.drop_eq_nil_of_le h] at hd; cases hd
        have hg : (s.adv ((i : Int) + 1)).good = true := by rw [adv_good]; simp [hc]
        have hw : IntKind.i64.wrap ((s.adv ((i : Int) + 1)).at_ - 1) = s.at_ + i := by
          rw [adv_at, IntWalk.i64_in _ (by omega)]; omega
        (simp only [go_sem, Nat.reduceAdd, Nat.reduceMul, Int.reduceToNat, Nat.reduceLeDiff, Int.reduceLE, Int.reduceLT, ↓reduceIte, Int.reduceBEq, Int.reduceBNe, Int.reduceAdd, Int.reduceSub, Int.reduceMul, hB]; try refine okTr_and rfl ?_)
        refine CallK.r1 (Reader_Good _ 0) rfl ?_
        (simp only [go_sem, Nat.reduceAdd, Nat.reduceMul, Int.reduceToNat, Nat.reduceLeDiff, Int.reduceLE, Int.reduceLT, ↓reduceIte, Int.reduceBEq, Int.reduceBNe, Int.reduceAdd, Int.reduceSub, Int.reduceMul, hg]; try refine okTr_and rfl ?_)
        have t1 : (7 * (i : Int) == 63) = decide (i = 9) := by
          rw [Bool.eq_iff_iff]; simp; omega
        by_cases c1 : i = 9 ∧ 1 < c
        · have hv := vint_over hc hu hd c1.1 c1.2
          have t2 : decide (1 < c) = true := by simpa using c1.2
          have t3 : decide (i = 9) = true := by simpa using c1.1
          (simp only [go_sem, Nat.reduceAdd, Nat.reduceMul, Int.reduceToNat, Nat.reduceLeDiff, Int.reduceLE, Int.reduceLT, ↓reduceIte, Int.reduceBEq, Int.reduceBNe, Int.reduceAdd, Int.reduceSub, Int.reduceMul, t1, t2, t3]; try refine okTr_and rfl ?_)
          refine CallK.r1 (Reader_At _ 0) rfl ?_
          (simp only [go_sem, Nat.reduceAdd, Nat.reduceMul, Int.reduceToNat, Nat.reduceLeDiff, Int.reduceLE, Int.reduceLT, ↓reduceIte, Int.reduceBEq, Int.reduceBNe, Int.reduceAdd, Int.reduceSub, Int.reduceMul, hw]; try refine okTr_and rfl ?_)
          refine CallK.u1 (Reader_Fail _ 5 _ 0) rfl ?_
          (simp only [go_sem, Nat.reduceAdd, Nat.reduceMul, Int.reduceToNat, Nat.reduceLeDiff, Int.reduceLE, Int.reduceLT, ↓reduceIte, Int.reduceBEq, Int.reduceBNe, Int.reduceAdd, Int.reduceSub, Int.reduceMul]; try refine okTr_and rfl ?_)
          ((refine FinK.finB r104 [0] ?_ ?_); (· first | with_reducible rfl | (simp [hv]; done) | rfl); (· simp [resAL, resA1, loadA, oneOr, hv]))
        · have p1 : (decide (i = 9) = true ∧ decide (1 < c) = false) ∨ (decide (i = 9) = false ∧ True) := by
            simp only [decide_eq_true_eq, decide_eq_false_iff_not, and_true]; omega
          by_cases c2 : 0 < i ∧ c = 0
          · obtain ⟨c2', rfl⟩ := c2
            have hv := vint_min hc hu hd c2'
            have t3 : decide (s.at_ < s.at_ + i) = true := by simp; omega
            rcases p1 with ⟨q1, q2⟩ | ⟨q1, q2⟩ <;>
            · (simp only [go_sem, Nat.reduceAdd, Nat.reduceMul, Int.reduceToNat, Nat.reduceLeDiff, Int.reduceLE, Int.reduceLT, ↓reduceIte, Int.reduceBEq, Int.reduceBNe, Int.reduceAdd, Int.reduceSub, Int.reduceMul, t1, q1]; try refine okTr_and rfl ?_)
              refine CallK.r1 (Reader_At _ 0) rfl ?_
              (simp only [go_sem, Nat.reduceAdd, Nat.reduceMul, Int.reduceToNat, Nat.reduceLeDiff, Int.reduceLE, Int.reduceLT, ↓reduceIte, Int.reduceBEq, Int.reduceBNe, Int.reduceAdd, Int.reduceSub, Int.reduceMul, hw, t3]; try refine okTr_and rfl ?_)
              refine CallK.r1 (Reader_At _ 0) rfl ?_
              (simp only [go_sem, Nat.reduceAdd, Nat.reduceMul, Int.reduceToNat, Nat.reduceLeDiff, Int.reduceLE, Int.reduceLT, ↓reduceIte, Int.reduceBEq, Int.reduceBNe, Int.reduceAdd, Int.reduceSub, Int.reduceMul, hw]; try refine okTr_and rfl ?_)
              refine CallK.u1 (Reader_Fail _ 4 _ 0) rfl ?_
              (simp only [go_sem, Nat.reduceAdd, Nat.reduceMul, Int.reduceToNat, Nat.reduceLeDiff, Int.reduceLE, Int.reduceLT, ↓reduceIte, Int.reduceBEq, Int.reduceBNe, Int.reduceAdd, Int.reduceSub, Int.reduceMul]; try refine okTr_and rfl ?_)
              ((refine FinK.finB r104 [0] ?_ ?_); (· first | with_reducible rfl | (simp [hv]; done) | rfl); (· simp [resAL, resA1, loadA, oneOr, hv]))
          · have hor := or_join' i hi9 x (c % 128) x0 x1 (by omega) (by omega) (by omega)
            have hm : c.tmod 128 = c % 128 := Int.tmod_eq_emod_of_nonneg (by omega)
            have p2 : ((c == 0) = true ∧ decide (s.at_ < s.at_ + i) = false) ∨ (c == 0) = false := by
              simp only [beq_iff_eq, decide_eq_false_iff_not, beq_eq_false_iff_ne]; omega
            rcases p1 with ⟨q1, q2⟩ | ⟨q1, q2⟩ <;> rcases p2 with ⟨q3, q4⟩ | q3 <;> (first | ((simp only [go_sem, Nat.reduceAdd, Nat.reduceMul, Int.reduceToNat, Nat.reduceLeDiff, Int.reduceLE, Int.reduceLT, ↓reduceIte, Int.reduceBEq, Int.reduceBNe, Int.reduceAdd, Int.reduceSub, Int.reduceMul, t1, q1, q2, q3, hm]; try refine okTr_and rfl ?_); refine CallK.r1 (Reader_At _ 0) rfl ?_; (simp only [go_sem, Nat.reduceAdd, Nat.reduceMul, Int.reduceToNat, Nat.reduceLeDiff, Int.reduceLE, Int.reduceLT, ↓reduceIte, Int.reduceBEq, Int.reduceBNe, Int.reduceAdd, Int.reduceSub, Int.reduceMul, hw, q4, hm, hor]; try refine okTr_and rfl ?_)) | (simp only [go_sem, Nat.reduceAdd, Nat.reduceMul, Int.reduceToNat, Nat.reduceLeDiff, Int.reduceLE, Int.reduceLT, ↓reduceIte, Int.reduceBEq, Int.reduceBNe, Int.reduceAdd, Int.reduceSub, Int.reduceMul, t1, q1, q2, q3, hm, hor]; try refine okTr_and rfl ?_)) <;>
            · (repeat ((with_reducible refine And.intro ?_ ?_); (· exact sd)))
              refine cdK_split (fun h => ?_) (fun h => ?_)
              · have h2 : 128 ≤ c := by simpa using h
                have h9 : i ≠ 9 := by omega
                obtain ⟨hu', hd'⟩ := upto_more hu hd c1 c2 (by omega)
                have h2x := (or_join i hi9 x (c % 128) x0 x1 (by omega) (by omega) (by omega)).2
                have hw2 : IntKind.i64.wrap (7 * (i : Int) + 7) = 7 * ((i + 1 : Nat) : Int) := by rw [IntWalk.i64_in _ (by omega)]; omega
                (simp only [go_sem, Nat.reduceAdd, Nat.reduceMul, Int.reduceToNat, Nat.reduceLeDiff, Int.reduceLE, Int.reduceLT, ↓reduceIte, Int.reduceBEq, Int.reduceBNe, Int.reduceAdd, Int.reduceSub, Int.reduceMul]; try refine okTr_and rfl ?_)
                refine ⟨(i + 1, x + 128 ^ i * (c % 128)), ⟨by simp only; omega, fun h => absurd hc h, h2x.2, h2x.1, hu', by simp only; omega⟩, by simp only; omega, Wk.to ?_ ?_⟩
                · simp
                · simp [leT, hw2]
              · have h2 : c < 128 := by simpa using h
                have hv := vint_last hc hu hd c1 c2 h2
                have hm2 : c % 128 = c := by omega
                (simp only [go_sem, Nat.reduceAdd, Nat.reduceMul, Int.reduceToNat, Nat.reduceLeDiff, Int.reduceLE, Int.reduceLT, ↓reduceIte, Int.reduceBEq, Int.reduceBNe, Int.reduceAdd, Int.reduceSub, Int.reduceMul]; try refine okTr_and rfl ?_)
                ((refine FinK.finB r104 [0] ?_ ?_); (· first | with_reducible rfl | (simp [hv, hm2]; done) | rfl); (· simp [resAL, resA1, loadA, oneOr, hv, hm2]))
    · have hi0 := hci hc
      subst hi0
      have hB := byte_bad s hc
      have hv := vint_bad hc
      have e0 : ((0 : Nat) : Int) = 0 := rfl
      have hg : s.good = false := by simp [RS.good, hc]
      (simp only [go_sem, Nat.reduceAdd, Nat.reduceMul, Int.reduceToNat, Nat.reduceLeDiff, Int.reduceLE, Int.reduceLT, ↓reduceIte, Int.reduceBEq, Int.reduceBNe, Int.reduceAdd, Int.reduceSub, Int.reduceMul, e0, hB]; try refine okTr_and rfl ?_)
      refine CallK.r1 (Reader_Good _ 0) rfl ?_
      (simp only [go_sem, Nat.reduceAdd, Nat.reduceMul, Int.reduceToNat, Nat.reduceLeDiff, Int.reduceLE, Int.reduceLT, ↓reduceIte, Int.reduceBEq, Int.reduceBNe, Int.reduceAdd, Int.reduceSub, Int.reduceMul, hg]; try refine okTr_and rfl ?_)
      ((refine FinK.finB r104 [0] ?_ ?_); (· first | with_reducible rfl | (simp [hv]; done) | rfl); (· simp [resAL, resA1, loadA, oneOr, hv]))
theorem varint_Read (s : RS) (i : Nat) (hs : s.ok) (hb : Bys s.l) : Ct Tryz.prog 104 [.ref i 0] [(i, rdr s)] (fun _ => uA s.vint.2) [(i, rdr s.vint.1)] (fun _ => []) := Ct.u1 (varint_Read0 s hs hb) i clo (fun ρ => rdr_ren ρ s) (fun ρ => rdr_ren ρ _) (rdr_dead s) clo

theorem varint_ReadMost0 (s : RS) (m : Int) (hs : s.ok) (hb : Bys s.l) : Does Tryz.prog 116 [.ref 0 0, uA m] [rdr s] (uA (s.most m).2) [rdr (s.most m).1] := by
  refine Does.runA Tryz.func116 b116 n116 Tryz.ntmps116 ?_; simp only [c116, go_sem, Nat.reduceAdd, Nat.reduceMul, Int.reduceToNat, Nat.reduceLeDiff, Int.reduceLE, Int.reduceLT, ↓reduceIte, Int.reduceBEq, Int.reduceBNe, Int.reduceAdd, Int.reduceSub, Int.reduceMul]; try refine okTr_and rfl ?_
  refine CallK.r1 (Reader_At s 0) rfl ?_
  (simp only [go_sem, Nat.reduceAdd, Nat.reduceMul, Int.reduceToNat, Nat.reduceLeDiff, Int.reduceLE, Int.reduceLT, ↓reduceIte, Int.reduceBEq, Int.reduceBNe, Int.reduceAdd, Int.reduceSub, Int.reduceMul]; try refine okTr_and rfl ?_)
  refine CallK.u1 (varint_Read s 0 hs hb) rfl ?_
  (simp only [go_sem, Nat.reduceAdd, Nat.reduceMul, Int.reduceToNat, Nat.reduceLeDiff, Int.reduceLE, Int.reduceLT, ↓reduceIte, Int.reduceBEq, Int.reduceBNe, Int.reduceAdd, Int.reduceSub, Int.reduceMul]; try refine okTr_and rfl ?_)
  refine cdK_split (fun h => ?_) (fun h => ?_)
  · have h' : m < s.vint.2 := by simpa using h
    (simp only [go_sem, Nat.reduceAdd, Nat.reduceMul, Int.reduceToNat, Nat.reduceLeDiff, Int.reduceLE, Int.reduceLT, ↓reduceIte, Int.reduceBEq, Int.reduceBNe, Int.reduceAdd, Int.reduceSub, Int.reduceMul]; try refine okTr_and rfl ?_)
    refine CallK.u1 (Reader_Fail _ 2 _ 0) rfl ?_
    (simp only [go_sem, Nat.reduceAdd, Nat.reduceMul, Int.reduceToNat, Nat.reduceLeDiff, Int.reduceLE, Int.reduceLT, ↓reduceIte, Int.reduceBEq, Int.reduceBNe, Int.reduceAdd, Int.reduceSub, Int.reduceMul]; try refine okTr_and rfl ?_)
    ((refine FinK.finB r116 [0] ?_ ?_); (· first | with_reducible rfl | (simp [RS.most, h']; done) | rfl); (· simp [resAL, resA1, loadA, oneOr, RS.most, h']))
  · have h' : ¬ m < s.vint.2 := by simpa using h
    (simp only [go_sem, Nat.reduceAdd, Nat.reduceMul, Int.reduceToNat, Nat.reduceLeDiff, Int.reduceLE, Int.reduceLT, ↓reduceIte, Int.reduceBEq, Int.reduceBNe, Int.reduceAdd, Int.reduceSub, Int.reduceMul]; try refine okTr_and rfl ?_)
    ((refine FinK.finB r116 [0] ?_ ?_); (· first | with_reducible rfl | (simp [RS.most, h']; done) | rfl); (· simp [resAL, resA1, loadA, oneOr, RS.most, h']))
theorem varint_ReadMost (s : RS) (m : Int) (i : Nat) (hs : s.ok) (hb : Bys s.l) : Ct Tryz.prog 116 [.ref i 0, uA m] [(i, rdr s)] (fun _ => uA (s.most m).2) [(i, rdr (s.most m).1)] (fun _ => []) := Ct.u1 (varint_ReadMost0 s m hs hb) i clo (fun ρ => rdr_ren ρ s) (fun ρ => rdr_ren ρ _) (rdr_dead s) clo

theorem varint_ReadInt0 (s : RS) (m : Int) (m1 : m < 9223372036854775808) (hs : s.ok) (hb : Bys s.l) : Does Tryz.prog 49 [.ref 0 0, iA m] [rdr s] (iA (s.int m).2) [rdr (s.int m).1] := by
  refine Does.runA Tryz.func49 b49 n49 Tryz.ntmps49 ?_; simp only [c49, go_sem, Nat.reduceAdd, Nat.reduceMul, Int.reduceToNat, Nat.reduceLeDiff, Int.reduceLE, Int.reduceLT, ↓reduceIte, Int.reduceBEq, Int.reduceBNe, Int.reduceAdd, Int.reduceSub, Int.reduceMul]; try refine okTr_and rfl ?_
  refine cdK_split (fun h => ?_) (fun h => ?_)
  · have h' : 0 ≤ m := by simpa using h
    have e : IntKind.u64.wrap m = m := IntWalk.u64_in _ (by omega)
    have hr := most_range (m := m) hb h'
    have e2 : IntKind.i64.wrap (s.most m).2 = (s.most m).2 := IntWalk.i64_in _ (by omega)
    (simp only [go_sem, Nat.reduceAdd, Nat.reduceMul, Int.reduceToNat, Nat.reduceLeDiff, Int.reduceLE, Int.reduceLT, ↓reduceIte, Int.reduceBEq, Int.reduceBNe, Int.reduceAdd, Int.reduceSub, Int.reduceMul, e]; try refine okTr_and rfl ?_)
    refine CallK.u1 (varint_ReadMost s m 0 hs hb) rfl ?_
    (simp only [go_sem, Nat.reduceAdd, Nat.reduceMul, Int.reduceToNat, Nat.reduceLeDiff, Int.reduceLE, Int.reduceLT, ↓reduceIte, Int.reduceBEq, Int.reduceBNe, Int.reduceAdd, Int.reduceSub, Int.reduceMul, e2]; try refine okTr_and rfl ?_)
    ((refine FinK.finB r49 [0] ?_ ?_); (· first | with_reducible rfl | (simp [RS.int, h']; done) | rfl); (· simp [resAL, resA1, loadA, oneOr, RS.int, h']))
  · have h' : ¬ 0 ≤ m := by simpa using h
    (simp only [go_sem, Nat.reduceAdd, Nat.reduceMul, Int.reduceToNat, Nat.reduceLeDiff, Int.reduceLE, Int.reduceLT, ↓reduceIte, Int.reduceBEq, Int.reduceBNe, Int.reduceAdd, Int.reduceSub, Int.reduceMul]; try refine okTr_and rfl ?_)
    refine CallK.r1 (Reader_At s 0) rfl ?_
    (simp only [go_sem, Nat.reduceAdd, Nat.reduceMul, Int.reduceToNat, Nat.reduceLeDiff, Int.reduceLE, Int.reduceLT, ↓reduceIte, Int.reduceBEq, Int.reduceBNe, Int.reduceAdd, Int.reduceSub, Int.reduceMul]; try refine okTr_and rfl ?_)
    refine CallK.u1 (varint_Read s 0 hs hb) rfl ?_
    (simp only [go_sem, Nat.reduceAdd, Nat.reduceMul, Int.reduceToNat, Nat.reduceLeDiff, Int.reduceLE, Int.reduceLT, ↓reduceIte, Int.reduceBEq, Int.reduceBNe, Int.reduceAdd, Int.reduceSub, Int.reduceMul]; try refine okTr_and rfl ?_)
    refine CallK.u1 (Reader_Fail _ 2 _ 0) rfl ?_
    (simp only [go_sem, Nat.reduceAdd, Nat.reduceMul, Int.reduceToNat, Nat.reduceLeDiff, Int.reduceLE, Int.reduceLT, ↓reduceIte, Int.reduceBEq, Int.reduceBNe, Int.reduceAdd, Int.reduceSub, Int.reduceMul]; try refine okTr_and rfl ?_)
    ((refine FinK.finB r49 [0] ?_ ?_); (· first | with_reducible rfl | (simp [RS.int, h']; done) | rfl); (· simp [resAL, resA1, loadA, oneOr, RS.int, h']))
theorem varint_ReadInt (s : RS) (m : Int) (i : Nat) (m1 : m < 9223372036854775808) (hs : s.ok) (hb : Bys s.l) : Ct Tryz.prog 49 [.ref i 0, iA m] [(i, rdr s)] (fun _ => iA (s.int m).2) [(i, rdr (s.int m).1)] (fun _ => []) := Ct.u1 (varint_ReadInt0 s m m1 hs hb) i clo (fun ρ => rdr_ren ρ s) (fun ρ => rdr_ren ρ _) (rdr_dead s) clo
end Go.Proofs.YtnfagphepkeedaaGreat
end
section
namespace Go.Proofs.YtnfagphepkeedaaGreat
open Go.RowKit

/-- A writer whose buffer is row j. -/
def wob (j : Nat) (s : WS) : AObj := .cells [iA s.most, .sl (.row j) 1 (ints .u8 s.l), iA s.code]
def wrow (s : WS) : AObj := .row 1 s.l.length
@[simp] theorem wob_ren (ρ : Nat → Nat) (j : Nat) (s : WS) : (wob j s).ren ρ = wob (ρ j) s := by simp [wob, ixs_z]
@[simp] theorem wrow_ren (ρ : Nat → Nat) (s : WS) : (wrow s).ren ρ = wrow s := rfl
theorem wob_dead (j : Nat) (s : WS) : wob j s ≠ .dead := by simp [wob]
theorem wrow_dead (s : WS) : wrow s ≠ .dead := by simp [wrow]

theorem Writer_Code0 (s : WS) : Does Tryz.prog 130 [.ref 0 0] [wob 1 s, wrow s] (iA s.code) [wob 1 s, wrow s] := by
  refine Does.runA Tryz.func130 b130 n130 Tryz.ntmps130 ?_; simp only [c130, go_sem, Nat.reduceAdd, Nat.reduceMul, Int.reduceToNat, Nat.reduceLeDiff, Int.reduceLE, Int.reduceLT, ↓reduceIte, Int.reduceBEq, Int.reduceBNe, Int.reduceAdd, Int.reduceSub, Int.reduceMul, wob, wrow]; try refine okTr_and rfl ?_
  ((refine FinK.finB r130 [0, 1] ?_ ?_); (· first | with_reducible rfl | (simp [wob, wrow]; done) | rfl); (· simp [resAL, resA1, loadA, oneOr, wob, wrow]))
theorem Writer_Code (s : WS) (i j : Nat) (h : i ≠ j) : Ct Tryz.prog 130 [.ref i 0] [(i, wob j s), (j, wrow s)] (fun _ => iA s.code) [] (fun _ => []) := Ct.r2 (Writer_Code0 s) i j h clo cl cl (wob_dead _ _) (wrow_dead _) clo

theorem Writer_Room0 (s : WS) (hs : s.ok) : Does Tryz.prog 166 [.ref 0 0] [wob 1 s, wrow s] (iA s.room) [wob 1 s, wrow s] := by
  obtain ⟨a, b, c⟩ := hs
  have e : IntKind.i64.wrap (s.most - s.l.length) = s.room := by rw [IntWalk.i64_in _ (by omega)]; rfl
  refine Does.runA Tryz.func166 b166 n166 Tryz.ntmps166 ?_; simp only [c166, go_sem, Nat.reduceAdd, Nat.reduceMul, Int.reduceToNat, Nat.reduceLeDiff, Int.reduceLE, Int.reduceLT, ↓reduceIte, Int.reduceBEq, Int.reduceBNe, Int.reduceAdd, Int.reduceSub, Int.reduceMul, wob, wrow, ints_length, e]; try refine okTr_and rfl ?_
  ((refine FinK.finB r166 [0, 1] ?_ ?_); (· first | with_reducible rfl | (simp [wob, wrow]; done) | rfl); (· simp [resAL, resA1, loadA, oneOr, wob, wrow]))
theorem Writer_Room (s : WS) (i j : Nat) (h : i ≠ j) (hs : s.ok) : Ct Tryz.prog 166 [.ref i 0] [(i, wob j s), (j, wrow s)] (fun _ => iA s.room) [] (fun _ => []) := Ct.r2 (Writer_Room0 s hs) i j h clo cl cl (wob_dead _ _) (wrow_dead _) clo

theorem Writer_Fail0 (s : WS) (c : Int) : Does Tryz.prog 152 [.ref 0 0, iA c] [wob 1 s, wrow s] (.tup []) [wob 1 (s.fail c), wrow (s.fail c)] := by
  have hw : wrow (s.fail c) = wrow s := by unfold wrow; rw [(fail_parts s c).2]
  refine Does.runA Tryz.func152 b152 n152 Tryz.ntmps152 ?_; simp only [c152, go_sem, Nat.reduceAdd, Nat.reduceMul, Int.reduceToNat, Nat.reduceLeDiff, Int.reduceLE, Int.reduceLT, ↓reduceIte, Int.reduceBEq, Int.reduceBNe, Int.reduceAdd, Int.reduceSub, Int.reduceMul]; try refine okTr_and rfl ?_
  refine CallK.r2 (Writer_Code s 0 1 (by decide)) rfl rfl ?_
  (simp only [go_sem, Nat.reduceAdd, Nat.reduceMul, Int.reduceToNat, Nat.reduceLeDiff, Int.reduceLE, Int.reduceLT, ↓reduceIte, Int.reduceBEq, Int.reduceBNe, Int.reduceAdd, Int.reduceSub, Int.reduceMul]; try refine okTr_and rfl ?_)
  refine cdK_split (fun h => ?_) (fun h => ?_)
  · have h' : s.code = 0 := by simpa using h
    (simp only [go_sem, Nat.reduceAdd, Nat.reduceMul, Int.reduceToNat, Nat.reduceLeDiff, Int.reduceLE, Int.reduceLT, ↓reduceIte, Int.reduceBEq, Int.reduceBNe, Int.reduceAdd, Int.reduceSub, Int.reduceMul, wob]; try refine okTr_and rfl ?_)
    ((refine FinK.finB r152 [0, 1] ?_ ?_); (· first | with_reducible rfl | (simp [wob, wrow, WS.fail, h']; done) | rfl); (· simp [resAL, resA1, loadA, oneOr, wob, wrow, WS.fail, h']))
  · have h' : ¬ s.code = 0 := by simpa using h
    (simp only [go_sem, Nat.reduceAdd, Nat.reduceMul, Int.reduceToNat, Nat.reduceLeDiff, Int.reduceLE, Int.reduceLT, ↓reduceIte, Int.reduceBEq, Int.reduceBNe, Int.reduceAdd, Int.reduceSub, Int.reduceMul]; try refine okTr_and rfl ?_)
    ((refine FinK.finB r152 [0, 1] ?_ ?_); (· first | with_reducible rfl | (simp [hw, WS.fail, h']; done) | rfl); (· simp [resAL, resA1, loadA, oneOr, hw, WS.fail, h']))
theorem Writer_Fail (s : WS) (c : Int) (i j : Nat) (h : i ≠ j) : Ct Tryz.prog 152 [.ref i 0, iA c] [(i, wob j s), (j, wrow s)] (fun _ => .tup []) [(i, wob j (s.fail c)), (j, wrow (s.fail c))] (fun _ => []) := Ct.u2 (Writer_Fail0 s c) i j h clo cl cl cl cl (wob_dead _ _) (wrow_dead _) clo

theorem Writer_Put0 (s : WS) (m : List Int) (hs : s.ok) (hB : s.l.length + m.length ≤ s.most → s.l.length + m.length ≤ 140737488355328) : Does Tryz.prog 129 [.ref 0 0, slA .u8 m] [wob 1 s, wrow s] (.tup []) [wob 1 (s.put m), wrow (s.put m)] := by
  refine Does.runA Tryz.func129 b129 n129 Tryz.ntmps129 ?_; simp only [c129, go_sem, Nat.reduceAdd, Nat.reduceMul, Int.reduceToNat, Nat.reduceLeDiff, Int.reduceLE, Int.reduceLT, ↓reduceIte, Int.reduceBEq, Int.reduceBNe, Int.reduceAdd, Int.reduceSub, Int.reduceMul]; try refine okTr_and rfl ?_
  refine CallK.r2 (Writer_Code s 0 1 (by decide)) rfl rfl ?_
  (simp only [go_sem, Nat.reduceAdd, Nat.reduceMul, Int.reduceToNat, Nat.reduceLeDiff, Int.reduceLE, Int.reduceLT, ↓reduceIte, Int.reduceBEq, Int.reduceBNe, Int.reduceAdd, Int.reduceSub, Int.reduceMul]; try refine okTr_and rfl ?_)
  refine cdK_split (fun h => ?_) (fun h => ?_)
  · have h' : ¬ s.code = 0 := by simpa using h
    (simp only [go_sem, Nat.reduceAdd, Nat.reduceMul, Int.reduceToNat, Nat.reduceLeDiff, Int.reduceLE, Int.reduceLT, ↓reduceIte, Int.reduceBEq, Int.reduceBNe, Int.reduceAdd, Int.reduceSub, Int.reduceMul]; try refine okTr_and rfl ?_)
    ((refine FinK.finB r129 [0, 1] ?_ ?_); (· first | with_reducible rfl | (simp [WS.put, h']; done) | rfl); (· simp [resAL, resA1, loadA, oneOr, WS.put, h']))
  · have h' : s.code = 0 := by simpa using h
    (simp only [go_sem, Nat.reduceAdd, Nat.reduceMul, Int.reduceToNat, Nat.reduceLeDiff, Int.reduceLE, Int.reduceLT, ↓reduceIte, Int.reduceBEq, Int.reduceBNe, Int.reduceAdd, Int.reduceSub, Int.reduceMul]; try refine okTr_and rfl ?_)
    refine CallK.r2 (Writer_Room s 0 1 (by decide) hs) rfl rfl ?_
    (simp only [go_sem, Nat.reduceAdd, Nat.reduceMul, Int.reduceToNat, Nat.reduceLeDiff, Int.reduceLE, Int.reduceLT, ↓reduceIte, Int.reduceBEq, Int.reduceBNe, Int.reduceAdd, Int.reduceSub, Int.reduceMul, ints_length]; try refine okTr_and rfl ?_)
    refine cdK_split (fun h => ?_) (fun h => ?_)
    · have h2 : s.most - s.l.length < m.length := by simp at h; simp only [WS.room] at h; omega
      have hf : s.fail 2 = s.put m := by unfold WS.put WS.fail; rw [if_pos h', if_pos h', if_pos h2]
      (simp only [go_sem, Nat.reduceAdd, Nat.reduceMul, Int.reduceToNat, Nat.reduceLeDiff, Int.reduceLE, Int.reduceLT, ↓reduceIte, Int.reduceBEq, Int.reduceBNe, Int.reduceAdd, Int.reduceSub, Int.reduceMul]; try refine okTr_and rfl ?_)
      refine CallK.u2 (Writer_Fail s 2 0 1 (by decide)) rfl rfl ?_
      (simp only [go_sem, Nat.reduceAdd, Nat.reduceMul, Int.reduceToNat, Nat.reduceLeDiff, Int.reduceLE, Int.reduceLT, ↓reduceIte, Int.reduceBEq, Int.reduceBNe, Int.reduceAdd, Int.reduceSub, Int.reduceMul]; try refine okTr_and rfl ?_)
      ((refine FinK.finB r129 [0, 1] ?_ ?_); (· first | with_reducible rfl | (simp [hf]; done) | rfl); (· simp [resAL, resA1, loadA, oneOr, hf]))
    · have h2 : ¬ s.most - s.l.length < m.length := by simp at h; simp only [WS.room] at h; omega
      (simp only [go_sem, Nat.reduceAdd, Nat.reduceMul, Int.reduceToNat, Nat.reduceLeDiff, Int.reduceLE, Int.reduceLT, ↓reduceIte, Int.reduceBEq, Int.reduceBNe, Int.reduceAdd, Int.reduceSub, Int.reduceMul, wob, wrow, ints_length, ints_append]; try refine okTr_and rfl ?_)
      (repeat ((with_reducible refine And.intro ?_ ?_); (· exact sd)))
      ((refine FinK.finB r129 [0, 1] ?_ ?_); (· first | with_reducible rfl | (simp [wob, wrow, WS.put, h', h2]; done) | rfl); (· simp [resAL, resA1, loadA, oneOr, wob, wrow, WS.put, h', h2]))
theorem Writer_Put (s : WS) (m : List Int) (i j : Nat) (h : i ≠ j) (hs : s.ok) (hB : s.l.length + m.length ≤ s.most → s.l.length + m.length ≤ 140737488355328) : Ct Tryz.prog 129 [.ref i 0, slA .u8 m] [(i, wob j s), (j, wrow s)] (fun _ => .tup []) [(i, wob j (s.put m)), (j, wrow (s.put m))] (fun _ => []) := Ct.u2 (Writer_Put0 s m hs hB) i j h clo cl cl cl cl (wob_dead _ _) (wrow_dead _) clo

theorem Writer_Bytes0 (s : WS) (hb : s.l.length ≤ 140737488355328) : Does Tryz.prog 70 [.ref 0 0] [wob 1 s, wrow s] (.tup [slA .u8 s.bytes, iA s.code]) [wob 1 s, wrow s] := by
  refine Does.runA Tryz.func70 b70 n70 Tryz.ntmps70 ?_; simp only [c70, go_sem, Nat.reduceAdd, Nat.reduceMul, Int.reduceToNat, Nat.reduceLeDiff, Int.reduceLE, Int.reduceLT, ↓reduceIte, Int.reduceBEq, Int.reduceBNe, Int.reduceAdd, Int.reduceSub, Int.reduceMul]; try refine okTr_and rfl ?_
  refine CallK.r2 (Writer_Code s 0 1 (by decide)) rfl rfl ?_
  (simp only [go_sem, Nat.reduceAdd, Nat.reduceMul, Int.reduceToNat, Nat.reduceLeDiff, Int.reduceLE, Int.reduceLT, ↓reduceIte, Int.reduceBEq, Int.reduceBNe, Int.reduceAdd, Int.reduceSub, Int.reduceMul]; try refine okTr_and rfl ?_)
  refine cdK_split (fun h => ?_) (fun h => ?_)
  · have h' : ¬ s.code = 0 := by simpa using h
    (simp only [go_sem, Nat.reduceAdd, Nat.reduceMul, Int.reduceToNat, Nat.reduceLeDiff, Int.reduceLE, Int.reduceLT, ↓reduceIte, Int.reduceBEq, Int.reduceBNe, Int.reduceAdd, Int.reduceSub, Int.reduceMul]; try refine okTr_and rfl ?_)
    (refine FinK.untag 2 rfl ?_; simp only [untag1_sl, List.set_cons_zero, List.set_cons_succ])
    ((refine FinK.finB r70 [0, 1] ?_ ?_); (· first | with_reducible rfl | (simp [WS.bytes, h']; done) | rfl); (· simp [resAL, resA1, loadA, oneOr, WS.bytes, h']))
  · have h' : s.code = 0 := by simpa using h
    (simp only [go_sem, Nat.reduceAdd, Nat.reduceMul, Int.reduceToNat, Nat.reduceLeDiff, Int.reduceLE, Int.reduceLT, ↓reduceIte, Int.reduceBEq, Int.reduceBNe, Int.reduceAdd, Int.reduceSub, Int.reduceMul, wob, wrow, ints_length]; try refine okTr_and rfl ?_)
    (repeat ((with_reducible refine And.intro ?_ ?_); (· exact sd)))
    (refine FinK.untag 2 rfl ?_; simp only [untag1_sl, List.set_cons_zero, List.set_cons_succ])
    ((refine FinK.finB r70 [0, 1] ?_ ?_); (· first | with_reducible rfl | (simp [wob, wrow, WS.bytes, h']; done) | rfl); (· simp [resAL, resA1, loadA, oneOr, wob, wrow, WS.bytes, h']))
theorem Writer_Bytes (s : WS) (i j : Nat) (h : i ≠ j) (hb : s.l.length ≤ 140737488355328) : Ct Tryz.prog 70 [.ref i 0] [(i, wob j s), (j, wrow s)] (fun _ => .tup [slA .u8 s.bytes, iA s.code]) [] (fun _ => []) := Ct.r2 (Writer_Bytes0 s hb) i j h clo cl cl (wob_dead _ _) (wrow_dead _) clo

theorem pen_New0 (n : Int) : Does Tryz.prog 66 [iA n] [] (.ref 0 0) [wob 1 (WS.new n), wrow (WS.new n)] := by
  have e : (if 0 > n then (0 : Int) else n) = max n 0 := by split <;> omega
  refine Does.runA Tryz.func66 b66 n66 Tryz.ntmps66 ?_; simp only [c66, go_sem, Nat.reduceAdd, Nat.reduceMul, Int.reduceToNat, Nat.reduceLeDiff, Int.reduceLE, Int.reduceLT, ↓reduceIte, Int.reduceBEq, Int.reduceBNe, Int.reduceAdd, Int.reduceSub, Int.reduceMul, e]; try refine okTr_and rfl ?_
  refine FinK.wk (Wk.rowObj 0 1 1 rfl rfl (.inl rfl) (Nat.le_refl _)) ?_
  (simp only [go_sem, Nat.reduceAdd, Nat.reduceMul, Int.reduceToNat, Nat.reduceLeDiff, Int.reduceLE, Int.reduceLT, ↓reduceIte, Int.reduceBEq, Int.reduceBNe, Int.reduceAdd, Int.reduceSub, Int.reduceMul]; try refine okTr_and rfl ?_)
  ((refine FinK.finB r66 [0, 1] ?_ ?_); (· first | with_reducible rfl | (simp [wob, wrow, WS.new]; done) | rfl); (· simp [resAL, resA1, loadA, oneOr, wob, wrow, WS.new]))
theorem pen_New (n : Int) : Ct Tryz.prog 66 [iA n] [] (fun k => .ref k 0) [] (fun k => [wob (k + 1) (WS.new n), wrow (WS.new n)]) := Ct.n (pen_New0 n) clo cl cl

theorem varint_Put0 (s : WS) (x : Int) (h0 : 0 ≤ x) (h1 : x < 18446744073709551616) (hs : s.ok) (hB : s.l.length + (vb x).length ≤ s.most → s.l.length + (vb x).length ≤ 140737488355328) : Does Tryz.prog 68 [.ref 0 0, uA x] [wob 1 s, wrow s] (.tup []) [wob 1 (s.put (vb x)), wrow (s.put (vb x))] := by
  refine Does.runA Tryz.func68 b68 n68 Tryz.ntmps68 ?_; simp only [c68, go_sem, Nat.reduceAdd, Nat.reduceMul, Int.reduceToNat, Nat.reduceLeDiff, Int.reduceLE, Int.reduceLT, ↓reduceIte, Int.reduceBEq, Int.reduceBNe, Int.reduceAdd, Int.reduceSub, Int.reduceMul]; try refine okTr_and rfl ?_
  refine CallK.p (varint_Bytes x h0 h1) ?_
  (simp only [go_sem, Nat.reduceAdd, Nat.reduceMul, Int.reduceToNat, Nat.reduceLeDiff, Int.reduceLE, Int.reduceLT, ↓reduceIte, Int.reduceBEq, Int.reduceBNe, Int.reduceAdd, Int.reduceSub, Int.reduceMul]; try refine okTr_and rfl ?_)
  refine CallK.u2 (Writer_Put s (vb x) 0 1 (by decide) hs hB) rfl rfl ?_
  (simp only [go_sem, Nat.reduceAdd, Nat.reduceMul, Int.reduceToNat, Nat.reduceLeDiff, Int.reduceLE, Int.reduceLT, ↓reduceIte, Int.reduceBEq, Int.reduceBNe, Int.reduceAdd, Int.reduceSub, Int.reduceMul]; try refine okTr_and rfl ?_)
  exact FinK.finA r68 [0, 1]
theorem varint_Put (s : WS) (x : Int) (i j : Nat) (h : i ≠ j) (h0 : 0 ≤ x) (h1 : x < 18446744073709551616) (hs : s.ok) (hB : s.l.length + (vb x).length ≤ s.most → s.l.length + (vb x).length ≤ 140737488355328) : Ct Tryz.prog 68 [.ref i 0, uA x] [(i, wob j s), (j, wrow s)] (fun _ => .tup []) [(i, wob j (s.put (vb x))), (j, wrow (s.put (vb x)))] (fun _ => []) := Ct.u2 (varint_Put0 s x h0 h1 hs hB) i j h clo cl cl cl cl (wob_dead _ _) (wrow_dead _) clo
end Go.Proofs.YtnfagphepkeedaaGreat
end
section
namespace Go.Proofs.YtnfagphepkeedaaGreat
open Go.RowKit

/-- A reader as a value. -/
abbrev cv (s : RS) : AV := .agg [slA .u8 s.l, iA s.at_, iA s.code, iA s.fat]

theorem bytes_same {l m : List Int} (hl : Bys l) (hm : Bys m) : ((bytesOf (ints .u8 l)).toList == (bytesOf (ints .u8 m)).toList) = sameB l m := by
  rw [ByteArray.toList_eq, ByteArray.toList_eq]
  unfold sameB
  rw [Bool.eq_iff_iff]
  simp only [beq_iff_eq, decide_eq_true_eq]
  constructor
  · intro h
    refine bys_inj l m hl hm ?_
    have h' : (ints .u8 l).map AV.byte = (ints .u8 m).map AV.byte := by simpa [bytesOf] using h
    unfold ints at h'
    rw [List.map_map, List.map_map] at h'
    exact h'
  · rintro rfl; rfl
theorem ref02_Same0 (l m : List Int) (hl : Bys l) (hm : Bys m) : Does Tryz.prog 19 [slA .u8 l, slA .u8 m] [] (bA (sameB l m)) [] := by
  refine Does.runA Tryz.func19 b19 n19 Tryz.ntmps19 ?_; simp only [c19, go_sem, Nat.reduceAdd, Nat.reduceMul, Int.reduceToNat, Nat.reduceLeDiff, Int.reduceLE, Int.reduceLT, ↓reduceIte, Int.reduceBEq, Int.reduceBNe, Int.reduceAdd, Int.reduceSub, Int.reduceMul, ints_u8, bytes_same hl hm]; try refine okTr_and rfl ?_
  exact FinK.finA r19 []
theorem ref02_Same (l m : List Int) (hl : Bys l) (hm : Bys m) : Ct Tryz.prog 19 [slA .u8 l, slA .u8 m] [] (fun _ => bA (sameB l m)) [] (fun _ => []) := (ref02_Same0 l m hl hm).toCt clo clo

theorem ref04_Bytes0 : ∀ (k : Nat) (x : Int), 0 ≤ x → x < 18446744073709551616 → x < 128 ^ (k + 1) → Does Tryz.prog 82 [uA x] [] (slA .u8 (vb x)) [] := by
  intro k
  induction k with
  | zero =>
    intro x h0 h1 hk
    have hlt : x < 128 := by simpa using hk
    have t : decide (x < 128) = true := by simpa using hlt
    have ew : IntKind.u8.wrap x = x := IntWalk.u8_in _ (by omega)
    have eb := vb_lt hlt
    have e1 : [u8A x] = ints .u8 [x] := rfl
    refine Does.runA Tryz.func82 b82 n82 Tryz.ntmps82 ?_; simp only [c82, go_sem, Nat.reduceAdd, Nat.reduceMul, Int.reduceToNat, Nat.reduceLeDiff, Int.reduceLE, Int.reduceLT, ↓reduceIte, Int.reduceBEq, Int.reduceBNe, Int.reduceAdd, Int.reduceSub, Int.reduceMul, t]; try refine okTr_and rfl ?_
    (simp only [go_sem, Nat.reduceAdd, Nat.reduceMul, Int.reduceToNat, Nat.reduceLeDiff, Int.reduceLE, Int.reduceLT, ↓reduceIte, Int.reduceBEq, Int.reduceBNe, Int.reduceAdd, Int.reduceSub, Int.reduceMul, ew, e1]; try refine okTr_and rfl ?_)
    (repeat ((with_reducible refine And.intro ?_ ?_); (· exact sd)))
    (refine FinK.untag 2 rfl ?_; simp only [untag1_sl, List.set_cons_zero, List.set_cons_succ])
    ((refine FinK.finB r82 [] ?_ ?_); (· first | with_reducible rfl | (simp [eb]; done) | rfl); (· simp [resAL, resA1, loadA, oneOr, eb]))
  | succ k ih =>
    intro x h0 h1 hk
    refine Does.runA Tryz.func82 b82 n82 Tryz.ntmps82 ?_; simp only [c82, go_sem, Nat.reduceAdd, Nat.reduceMul, Int.reduceToNat, Nat.reduceLeDiff, Int.reduceLE, Int.reduceLT, ↓reduceIte, Int.reduceBEq, Int.reduceBNe, Int.reduceAdd, Int.reduceSub, Int.reduceMul]; try refine okTr_and rfl ?_
    refine cdK_split (fun h => ?_) (fun h => ?_)
    · have hlt : x < 128 := by simpa using h
      have ew : IntKind.u8.wrap x = x := IntWalk.u8_in _ (by omega)
      have eb := vb_lt hlt
      have e1 : [u8A x] = ints .u8 [x] := rfl
      (simp only [go_sem, Nat.reduceAdd, Nat.reduceMul, Int.reduceToNat, Nat.reduceLeDiff, Int.reduceLE, Int.reduceLT, ↓reduceIte, Int.reduceBEq, Int.reduceBNe, Int.reduceAdd, Int.reduceSub, Int.reduceMul, ew, e1]; try refine okTr_and rfl ?_)
      (repeat ((with_reducible refine And.intro ?_ ?_); (· exact sd)))
      (refine FinK.untag 2 rfl ?_; simp only [untag1_sl, List.set_cons_zero, List.set_cons_succ])
      ((refine FinK.finB r82 [] ?_ ?_); (· first | with_reducible rfl | (simp [eb]; done) | rfl); (· simp [resAL, resA1, loadA, oneOr, eb]))
    · have hge : 128 ≤ x := by simp at h; omega
      have eb := vb_ge hge h1
      have hl := (vb_len (x / 128)).2
      have em : x.tmod 128 = x % 128 := Int.tmod_eq_emod_of_nonneg h0
      have ed : IntKind.u64.wrap (x.tdiv 128) = x / 128 := by rw [Int.tdiv_eq_ediv_of_nonneg h0, IntWalk.u64_in _ (by omega)]
      have ea : IntKind.u64.wrap (128 + x % 128) = 128 + x % 128 := IntWalk.u64_in _ (by omega)
      have eu : IntKind.u8.wrap (128 + x % 128) = 128 + x % 128 := IntWalk.u8_in _ (by omega)
      have e1 : [u8A (128 + x % 128)] = ints .u8 [128 + x % 128] := rfl
      have hih := (ih (x / 128) (by omega) (by omega) (by rw [Int.pow_succ] at hk; omega)).toCt cl cl
      (simp only [go_sem, Nat.reduceAdd, Nat.reduceMul, Int.reduceToNat, Nat.reduceLeDiff, Int.reduceLE, Int.reduceLT, ↓reduceIte, Int.reduceBEq, Int.reduceBNe, Int.reduceAdd, Int.reduceSub, Int.reduceMul, em, ed, ea, eu, e1]; try refine okTr_and rfl ?_)
      (repeat ((with_reducible refine And.intro ?_ ?_); (· exact sd)))
      refine CallK.p (hih) ?_
      (simp only [go_sem, Nat.reduceAdd, Nat.reduceMul, Int.reduceToNat, Nat.reduceLeDiff, Int.reduceLE, Int.reduceLT, ↓reduceIte, Int.reduceBEq, Int.reduceBNe, Int.reduceAdd, Int.reduceSub, Int.reduceMul, ints_append, ints_length]; try refine okTr_and rfl ?_)
      (repeat ((with_reducible refine And.intro ?_ ?_); (· exact sd)))
      (refine FinK.untag 2 rfl ?_; simp only [untag1_sl, List.set_cons_zero, List.set_cons_succ])
      ((refine FinK.finB r82 [] ?_ ?_); (· first | with_reducible rfl | (simp [eb]; done) | rfl); (· simp [resAL, resA1, loadA, oneOr, eb]))
theorem ref04_Bytes (x : Int) (h0 : 0 ≤ x) (h1 : x < 18446744073709551616) : Ct Tryz.prog 82 [uA x] [] (fun _ => slA .u8 (vb x)) [] (fun _ => []) := (ref04_Bytes0 9 x h0 h1 (by omega)).toCt cl cl

theorem u8_get (l : List Int) (i : Int) (h0 : 0 ≤ i) (h1 : i < l.length) : (ints .u8 l).getD i.toNat .any = u8A (l.getD i.toNat 0) := u8_in_list _ (by omega)
end Go.Proofs.YtnfagphepkeedaaGreat
end
section
namespace Go.Proofs.YtnfagphepkeedaaGreat
open Go.RowKit

end Go.Proofs.YtnfagphepkeedaaGreat
end
end
section
section
namespace Go.Proofs.YtnfagphepkeedaaGreat
open Go.RowKit

end Go.Proofs.YtnfagphepkeedaaGreat
end
section
namespace Go.Proofs.YtnfagphepkeedaaGreat
open Go.RowKit

abbrev slU (l : List Int) : AV := .sl .none 1 (ints .u64 l)
theorem u64_get (l : List Int) (i : Nat) (h : i < l.length) : (ints .u64 l).getD (i : Int).toNat .any = uA (l.getD i 0) := by
  rw [Int.toNat_natCast]; exact ints_getD .u64 l i h
theorem ints_snoc (k : IntKind) (l : List Int) (z : Int) : ints k l ++ [.lit (.int k z)] = ints k (l ++ [z]) := by simp [ints]
end Go.Proofs.YtnfagphepkeedaaGreat
end
section
namespace Go.Proofs.YtnfagphepkeedaaGreat
open Go.RowKit

theorem good_false {s : RS} (h : ¬ s.code = 0) : s.good = false := by simp [RS.good, h]
theorem good_true {s : RS} (h : s.code = 0) : s.good = true := by simp [RS.good, h]
end Go.Proofs.YtnfagphepkeedaaGreat
end
section
namespace Go.Proofs.YtnfagphepkeedaaGreat
open Go.RowKit

theorem ref05_Same0 (l m : List Int) (hn : l.length ≤ 140737488355328) : Does Tryz.prog 198 [slU l, slU m] [] (bA (sameB l m)) [] := by
  refine Does.runA Tryz.func198 b198 n198 Tryz.ntmps198 ?_; simp only [c198, go_sem, Nat.reduceAdd, Nat.reduceMul, Int.reduceToNat, Nat.reduceLeDiff, Int.reduceLE, Int.reduceLT, ↓reduceIte, Int.reduceBEq, Int.reduceBNe, Int.reduceAdd, Int.reduceSub, Int.reduceMul, ints_length]; try refine okTr_and rfl ?_
  refine cdK_split (fun h => ?_) (fun h => ?_)
  · have hne : sameB l m = false := by
      unfold sameB; simp at h ⊢; intro e; subst e; exact h rfl
    (simp only [go_sem, Nat.reduceAdd, Nat.reduceMul, Int.reduceToNat, Nat.reduceLeDiff, Int.reduceLE, Int.reduceLT, ↓reduceIte, Int.reduceBEq, Int.reduceBNe, Int.reduceAdd, Int.reduceSub, Int.reduceMul]; try refine okTr_and rfl ?_)
    ((refine FinK.finB r198 [] ?_ ?_); (· first | with_reducible rfl | (simp [hne]; done) | rfl); (· simp [resAL, resA1, loadA, oneOr, hne]))
  · have hlen : l.length = m.length := by
      have h' : (l.length : Int) = m.length := by simpa using h
      omega
    (simp only [go_sem, Nat.reduceAdd, Nat.reduceMul, Int.reduceToNat, Nat.reduceLeDiff, Int.reduceLE, Int.reduceLT, ↓reduceIte, Int.reduceBEq, Int.reduceBNe, Int.reduceAdd, Int.reduceSub, Int.reduceMul]; try refine okTr_and rfl ?_)
    refine loop_of (α := Nat) (fun k => [slU l, slU m, .any, .any, .any, iA k, .any, .any, .any, .any, .any, .any, .any, .any, .any, .any, .any, .any, .any, .any, .any, .any, .any, .any, .any, .any]) (fun _ => []) (fun k => k ≤ l.length ∧ l.take k = m.take k) (fun k => l.length - k) 0 ⟨by simp, by simp⟩ (Wk.to (by simp) (by simp [leT])) ?_
    rintro k ⟨hk, ht⟩
    (simp only [go_sem, Nat.reduceAdd, Nat.reduceMul, Int.reduceToNat, Nat.reduceLeDiff, Int.reduceLE, Int.reduceLT, ↓reduceIte, Int.reduceBEq, Int.reduceBNe, Int.reduceAdd, Int.reduceSub, Int.reduceMul, ints_length]; try refine okTr_and rfl ?_)
    refine cdK_split (fun h => ?_) (fun h => ?_)
    · have hlt : k < l.length := by simpa using h
      have g1 := u64_get l k hlt
      have g2 := u64_get m k (by omega)
      have ei : IntKind.i64.wrap ((k : Int) + 1) = ((k + 1 : Nat) : Int) := by rw [IntWalk.i64_in _ (by omega)]; omega
      (simp only [go_sem, Nat.reduceAdd, Nat.reduceMul, Int.reduceToNat, Nat.reduceLeDiff, Int.reduceLE, Int.reduceLT, ↓reduceIte, Int.reduceBEq, Int.reduceBNe, Int.reduceAdd, Int.reduceSub, Int.reduceMul, g1, g2, ints_length]; try refine okTr_and rfl ?_)
      (repeat ((with_reducible refine And.intro ?_ ?_); (· exact sd)))
      refine cdK_split (fun h => ?_) (fun h => ?_)
      · have hx : l.getD k 0 ≠ m.getD k 0 := by simpa using h
        have hne : sameB l m = false := by unfold sameB; simp only [decide_eq_false_iff_not]; rintro rfl; exact hx rfl
        (simp only [go_sem, Nat.reduceAdd, Nat.reduceMul, Int.reduceToNat, Nat.reduceLeDiff, Int.reduceLE, Int.reduceLT, ↓reduceIte, Int.reduceBEq, Int.reduceBNe, Int.reduceAdd, Int.reduceSub, Int.reduceMul]; try refine okTr_and rfl ?_)
        ((refine FinK.finB r198 [] ?_ ?_); (· first | with_reducible rfl | (simp [hne]; done) | rfl); (· simp [resAL, resA1, loadA, oneOr, hne]))
      · have hx : l.getD k 0 = m.getD k 0 := by simpa using h
        (simp only [go_sem, Nat.reduceAdd, Nat.reduceMul, Int.reduceToNat, Nat.reduceLeDiff, Int.reduceLE, Int.reduceLT, ↓reduceIte, Int.reduceBEq, Int.reduceBNe, Int.reduceAdd, Int.reduceSub, Int.reduceMul, ei]; try refine okTr_and rfl ?_)
        refine ⟨k + 1, ⟨hlt, ?_⟩, by omega, Wk.to (by simp) (by simp [leT])⟩
        rw [take_snoc l k hlt, take_snoc m k (by omega), ht, hx]
    · have hk' : k = l.length := by simp at h; omega
      have he : sameB l m = true := by
        unfold sameB
        rw [hk', List.take_length, List.take_of_length_le (by omega)] at ht
        simpa using ht
      (simp only [go_sem, Nat.reduceAdd, Nat.reduceMul, Int.reduceToNat, Nat.reduceLeDiff, Int.reduceLE, Int.reduceLT, ↓reduceIte, Int.reduceBEq, Int.reduceBNe, Int.reduceAdd, Int.reduceSub, Int.reduceMul]; try refine okTr_and rfl ?_)
      ((refine FinK.finB r198 [] ?_ ?_); (· first | with_reducible rfl | (simp [he]; done) | rfl); (· simp [resAL, resA1, loadA, oneOr, he]))
theorem ref05_Same (l m : List Int) (hn : l.length ≤ 140737488355328) : Ct Tryz.prog 198 [slU l, slU m] [] (fun _ => bA (sameB l m)) [] (fun _ => []) := (ref05_Same0 l m hn).toCt cl clo

abbrev ownA (i : Nat) (l : List Int) : AV := .sl (.row i) 1 (ints .u8 l)
end Go.Proofs.YtnfagphepkeedaaGreat
end
end
section
section
namespace Go.Proofs.YtnfagphepkeedaaGreat
open Go.RowKit

theorem mx0 (n : Int) : (if (0 : Int) > n then 0 else n) = max n 0 := by split <;> omega
theorem mn (n k : Int) : (if k < n then k else n) = min n k := by split <;> omega
theorem len_u64 {β : Type} (b : List β) (h : b.length < 18446744073709551616) : IntKind.u64.wrap (b.length : Int) = (b.length : Int) := IntWalk.u64_in _ (by omega)
theorem i64_succ (k : Nat) (h : k < 140737488355329) : IntKind.i64.wrap ((k : Int) + 1) = ((k + 1 : Nat) : Int) := by rw [IntWalk.i64_in _ (by omega)]; omega

theorem blob_Put0 (s : WS) (b : List Int) (hs : s.fine) (hb : b.length ≤ 140737488355328) : Does Tryz.prog 69 [.ref 0 0, slA .u8 b] [wob 1 s, wrow s] (.tup []) [wob 1 ((s.put (vb b.length)).put b), wrow ((s.put (vb b.length)).put b)] := by
  have e := len_u64 b (by omega)
  refine Does.runA Tryz.func69 b69 n69 Tryz.ntmps69 ?_; simp only [c69, go_sem, Nat.reduceAdd, Nat.reduceMul, Int.reduceToNat, Nat.reduceLeDiff, Int.reduceLE, Int.reduceLT, ↓reduceIte, Int.reduceBEq, Int.reduceBNe, Int.reduceAdd, Int.reduceSub, Int.reduceMul, ints_length, e]; try refine okTr_and rfl ?_
  refine CallK.u2 (varint_Put s b.length 0 1 (by decide) (by omega) (by omega) hs.ok (hs.room _)) rfl rfl ?_
  (simp only [go_sem, Nat.reduceAdd, Nat.reduceMul, Int.reduceToNat, Nat.reduceLeDiff, Int.reduceLE, Int.reduceLT, ↓reduceIte, Int.reduceBEq, Int.reduceBNe, Int.reduceAdd, Int.reduceSub, Int.reduceMul]; try refine okTr_and rfl ?_)
  refine CallK.u2 (Writer_Put _ b 0 1 (by decide) (hs.put _).ok ((hs.put _).room _)) rfl rfl ?_
  (simp only [go_sem, Nat.reduceAdd, Nat.reduceMul, Int.reduceToNat, Nat.reduceLeDiff, Int.reduceLE, Int.reduceLT, ↓reduceIte, Int.reduceBEq, Int.reduceBNe, Int.reduceAdd, Int.reduceSub, Int.reduceMul]; try refine okTr_and rfl ?_)
  exact FinK.finA r69 [0, 1]
theorem blob_Put (s : WS) (b : List Int) (i j : Nat) (h : i ≠ j) (hs : s.fine) (hb : b.length ≤ 140737488355328) : Ct Tryz.prog 69 [.ref i 0, slA .u8 b] [(i, wob j s), (j, wrow s)] (fun _ => .tup []) [(i, wob j ((s.put (vb b.length)).put b)), (j, wrow ((s.put (vb b.length)).put b))] (fun _ => []) := Ct.u2 (blob_Put0 s b hs hb) i j h cl cl cl cl cl (wob_dead _ _) (wrow_dead _) clo
theorem blob_Read0 (s : RS) (m : Int) (m1 : m < 9223372036854775808) (hs : ROk s) : Does Tryz.prog 105 [.ref 0 0, iA m] [rdr s] (slA .u8 (s.blob m).2) [rdr (s.blob m).1] := by
  refine Does.runA Tryz.func105 b105 n105 Tryz.ntmps105 ?_; simp only [c105, go_sem, Nat.reduceAdd, Nat.reduceMul, Int.reduceToNat, Nat.reduceLeDiff, Int.reduceLE, Int.reduceLT, ↓reduceIte, Int.reduceBEq, Int.reduceBNe, Int.reduceAdd, Int.reduceSub, Int.reduceMul]; try refine okTr_and rfl ?_
  refine CallK.u1 (varint_ReadInt s m 0 m1 hs.ok hs.bys) rfl ?_
  (simp only [go_sem, Nat.reduceAdd, Nat.reduceMul, Int.reduceToNat, Nat.reduceLeDiff, Int.reduceLE, Int.reduceLT, ↓reduceIte, Int.reduceBEq, Int.reduceBNe, Int.reduceAdd, Int.reduceSub, Int.reduceMul]; try refine okTr_and rfl ?_)
  refine CallK.u1 (Reader_Take _ _ 0 (hs.int m).1.ok) rfl ?_
  (simp only [go_sem, Nat.reduceAdd, Nat.reduceMul, Int.reduceToNat, Nat.reduceLeDiff, Int.reduceLE, Int.reduceLT, ↓reduceIte, Int.reduceBEq, Int.reduceBNe, Int.reduceAdd, Int.reduceSub, Int.reduceMul]; try refine okTr_and rfl ?_)
  ((refine FinK.finB r105 [0] ?_ ?_); (· first | with_reducible rfl | (simp [RS.blob]; done) | rfl); (· simp [resAL, resA1, loadA, oneOr, RS.blob]))
theorem blob_Read (s : RS) (m : Int) (i : Nat) (m1 : m < 9223372036854775808) (hs : ROk s) : Ct Tryz.prog 105 [.ref i 0, iA m] [(i, rdr s)] (fun _ => slA .u8 (s.blob m).2) [(i, rdr (s.blob m).1)] (fun _ => []) := Ct.u1 (blob_Read0 s m m1 hs) i clo (fun ρ => rdr_ren ρ s) (fun ρ => rdr_ren ρ _) (rdr_dead s) cl
theorem blob_Size0 (n : Int) (n1 : n ≤ 4611686018427387904) : Does Tryz.prog 167 [iA n] [] (iA ((vb (max n 0)).length + max n 0)) [] := by
  have e0 := mx0 n
  have e1 : IntKind.u64.wrap (max n 0) = max n 0 := IntWalk.u64_in _ (by omega)
  have hv := (vb_len (max n 0)).2
  have e2 : IntKind.i64.wrap (((vb (max n 0)).length : Int) + max n 0) = (vb (max n 0)).length + max n 0 := IntWalk.i64_in _ (by omega)
  refine Does.runA Tryz.func167 b167 n167 Tryz.ntmps167 ?_; simp only [c167, go_sem, Nat.reduceAdd, Nat.reduceMul, Int.reduceToNat, Nat.reduceLeDiff, Int.reduceLE, Int.reduceLT, ↓reduceIte, Int.reduceBEq, Int.reduceBNe, Int.reduceAdd, Int.reduceSub, Int.reduceMul, e0, e1]; try refine okTr_and rfl ?_
  refine CallK.p (varint_Size (max n 0) (by omega) (by omega)) ?_
  (simp only [go_sem, Nat.reduceAdd, Nat.reduceMul, Int.reduceToNat, Nat.reduceLeDiff, Int.reduceLE, Int.reduceLT, ↓reduceIte, Int.reduceBEq, Int.reduceBNe, Int.reduceAdd, Int.reduceSub, Int.reduceMul, e2]; try refine okTr_and rfl ?_)
  exact FinK.finA r167 []
theorem blob_Size (n : Int) (n1 : n ≤ 4611686018427387904) : Ct Tryz.prog 167 [iA n] [] (fun _ => iA ((vb (max n 0)).length + max n 0)) [] (fun _ => []) := (blob_Size0 n n1).toCt clo clo

theorem or_join256 (i : Nat) (hi : i ≤ 7) (x c : Int) (h0 : 0 ≤ x) (h1 : x < 256 ^ i) (c0 : 0 ≤ c) (c1 : c < 256) :
    bitsI .or .u64 x (IntKind.u64.wrap (IntKind.u64.wrap c * 2 ^ min (8 * (i : Int)).toNat 64)) = x + 256 ^ i * c := by
  obtain ⟨n, rfl⟩ := Int.eq_ofNat_of_zero_le c0
  obtain ⟨m, rfl⟩ := Int.eq_ofNat_of_zero_le h0
  have e2 : min (8 * (i : Int)).toNat 64 = 8 * i := by omega
  have e1 : IntKind.u64.wrap (n : Int) = n := IntWalk.u64_in _ (by omega)
  have hp : (2 : Int) ^ (8 * i) = 256 ^ i := by rw [Int.pow_mul]; rfl
  have hpos : (0 : Int) < 256 ^ i := Int.pow_pos (by omega)
  have hcast : ((256 ^ i : Nat) : Int) = 256 ^ i := by rw [Int.natCast_pow]; rfl
  have h1' : m < 256 ^ i := by omega
  have hB : n * 256 ^ i < 18446744073709551616 := by
    have : i = 0 ∨ i = 1 ∨ i = 2 ∨ i = 3 ∨ i = 4 ∨ i = 5 ∨ i = 6 ∨ i = 7 := by omega
    rcases this with rfl | rfl | rfl | rfl | rfl | rfl | rfl | rfl <;> simp <;> omega
  have hm : (m : Int) < 18446744073709551616 := by
    have : i = 0 ∨ i = 1 ∨ i = 2 ∨ i = 3 ∨ i = 4 ∨ i = 5 ∨ i = 6 ∨ i = 7 := by omega
    rcases this with rfl | rfl | rfl | rfl | rfl | rfl | rfl | rfl <;> simp at h1 <;> omega
  have e0 : (n : Int) * 256 ^ i = ((n * 256 ^ i : Nat) : Int) := by rw [Int.natCast_mul, hcast]
  have e3 : IntKind.u64.wrap ((n : Int) * 2 ^ (8 * i)) = ((n * 256 ^ i : Nat) : Int) := by
    rw [hp, e0]
    exact IntWalk.u64_in _ (by omega)
  rw [e2, e1, e3]
  show bits .or .u64 (m : Int) _ = _
  rw [u64_or_nat m _ (by omega) hB]
  have e4 : m ||| n * 256 ^ i = n * 256 ^ i + m := by
    rw [Nat.or_comm]
    have q : (2 : Nat) ^ (8 * i) = 256 ^ i := by rw [Nat.pow_mul]
    exact nat_join (8 * i) _ _ (by rw [q]; exact Nat.mul_mod_left _ _) (by rw [q]; exact h1')
  rw [e4, Int.natCast_add, ← e0, Int.mul_comm, Int.add_comm]
theorem fix_take (b : List Int) (k : Nat) (h : k < b.length) : fixOf (b.take (k + 1)) = fixOf (b.take k) + 256 ^ k * b.getD k 0 := by
  have hl : (b.take k).length = k := by simp; omega
  rw [take_snoc b k h, fixOf_snoc, hl]
set_option maxRecDepth 100000 in
theorem blob_ReadFixed0 (s : RS) (n : Int) (hs : ROk s) : Does Tryz.prog 36 [.ref 0 0, iA n] [rdr s] (uA (s.fixed (min (max n 0) 8)).2) [rdr (s.fixed (min (max n 0) 8)).1] := by
  have e0 := mx0 n
  have e1 := mn (max n 0) 8
  unfold RS.fixed
  obtain ⟨m, hm⟩ : ∃ m, min (max n 0) 8 = m := ⟨_, rfl⟩
  have hm8 : m ≤ 8 := by omega
  rw [hm] at e1 ⊢
  have htl : (s.take m).2.length ≤ 8 := by
    by_cases hc : (s.take m).1.code = 0
    · have := (take_bytes hs hc).2.2.1; omega
    · rw [take_bad hc]; simp
  have htb := take_bys hs.bys m
  refine Does.runA Tryz.func36 b36 n36 Tryz.ntmps36 ?_; simp only [c36, go_sem, Nat.reduceAdd, Nat.reduceMul, Int.reduceToNat, Nat.reduceLeDiff, Int.reduceLE, Int.reduceLT, ↓reduceIte, Int.reduceBEq, Int.reduceBNe, Int.reduceAdd, Int.reduceSub, Int.reduceMul, e0, e1]; try refine okTr_and rfl ?_
  refine CallK.u1 (Reader_Take s m 0 hs.ok) rfl ?_
  generalize (s.take m).1 = t at *
  generalize (s.take m).2 = b at *
  (simp only [go_sem, Nat.reduceAdd, Nat.reduceMul, Int.reduceToNat, Nat.reduceLeDiff, Int.reduceLE, Int.reduceLT, ↓reduceIte, Int.reduceBEq, Int.reduceBNe, Int.reduceAdd, Int.reduceSub, Int.reduceMul, ints_length]; try refine okTr_and rfl ?_)
  refine loop_of (α := Nat) (fun k => [.any, .any, .any, .any, .any, uA (fixOf (b.take k)), .any, .any, .any, .any, .any, .any, slA .u8 b, iA b.length, iA k, .any, .any, .any, .any, .any, .any, .any, .any, .any, .any, .any, .any, .any]) (fun _ => [rdr t]) (fun k => k ≤ b.length) (fun k => b.length - k) 0 (by simp) (Wk.forget (by simp [leT, fixOf])) ?_
  intro k hk
  (simp only [go_sem, Nat.reduceAdd, Nat.reduceMul, Int.reduceToNat, Nat.reduceLeDiff, Int.reduceLE, Int.reduceLT, ↓reduceIte, Int.reduceBEq, Int.reduceBNe, Int.reduceAdd, Int.reduceSub, Int.reduceMul]; try refine okTr_and rfl ?_)
  refine cdK_split (fun h => ?_) (fun h => ?_)
  · have hlt : k < b.length := by simpa using h
    have g := u8_get b k (by omega) (by omega)
    rw [Int.toNat_natCast] at g
    have hr := fixOf_range (l := b.take k) fun x hx => htb x (List.mem_of_mem_take hx)
    have hkl : (b.take k).length = k := by simp; omega
    rw [hkl] at hr
    have hc := htb _ (getD_mem b k hlt)
    have eo := or_join256 k (by omega) (fixOf (b.take k)) (b.getD k 0) hr.1 hr.2 hc.1 hc.2
    have em : IntKind.i64.wrap (8 * (k : Int)) = 8 * k := IntWalk.i64_in _ (by omega)
    rw [← fix_take b k hlt] at eo
    have ei := i64_succ k (by omega)
    (simp only [go_sem, Nat.reduceAdd, Nat.reduceMul, Int.reduceToNat, Nat.reduceLeDiff, Int.reduceLE, Int.reduceLT, ↓reduceIte, Int.reduceBEq, Int.reduceBNe, Int.reduceAdd, Int.reduceSub, Int.reduceMul, g, ints_length, Int.toNat_natCast, em, eo, ei]; try refine okTr_and rfl ?_)
    (repeat ((with_reducible refine And.intro ?_ ?_); (· exact sd)))
    exact ⟨k + 1, hlt, by omega, Wk.to (by simp) (by simp [leT])⟩
  · have ek : k = b.length := by simp at h; omega
    (simp only [go_sem, Nat.reduceAdd, Nat.reduceMul, Int.reduceToNat, Nat.reduceLeDiff, Int.reduceLE, Int.reduceLT, ↓reduceIte, Int.reduceBEq, Int.reduceBNe, Int.reduceAdd, Int.reduceSub, Int.reduceMul]; try refine okTr_and rfl ?_)
    ((refine FinK.finB r36 [0] ?_ ?_); (· first | with_reducible rfl | (simp [ek]; done) | rfl); (· simp [resAL, resA1, loadA, oneOr, ek]))
theorem blob_ReadFixed (s : RS) (n : Int) (i : Nat) (hs : ROk s) : Ct Tryz.prog 36 [.ref i 0, iA n] [(i, rdr s)] (fun _ => uA (s.fixed (min (max n 0) 8)).2) [(i, rdr (s.fixed (min (max n 0) 8)).1)] (fun _ => []) := Ct.u1 (blob_ReadFixed0 s n hs) i clo (fun ρ => rdr_ren ρ s) (fun ρ => rdr_ren ρ _) (rdr_dead s) clo
end Go.Proofs.YtnfagphepkeedaaGreat
end
section
namespace Go.Proofs.YtnfagphepkeedaaGreat
open Go.RowKit

end Go.Proofs.YtnfagphepkeedaaGreat
end
section
namespace Go.Proofs.YtnfagphepkeedaaGreat
open Go.RowKit

theorem ref04_BytesO0 (x : Int) (h0 : 0 ≤ x) (h1 : x < 18446744073709551616) : Does Tryz.prog 82 [uA x] [] (ownA 0 (vb x)) [.row 1 (vb x).length] := by
  refine Does.runA Tryz.func82 b82 n82 Tryz.ntmps82 ?_; simp only [c82, go_sem, Nat.reduceAdd, Nat.reduceMul, Int.reduceToNat, Nat.reduceLeDiff, Int.reduceLE, Int.reduceLT, ↓reduceIte, Int.reduceBEq, Int.reduceBNe, Int.reduceAdd, Int.reduceSub, Int.reduceMul]; try refine okTr_and rfl ?_
  refine cdK_split (fun h => ?_) (fun h => ?_)
  · have hlt : x < 128 := by simpa using h
    have ew : IntKind.u8.wrap x = x := IntWalk.u8_in _ (by omega)
    have eb := vb_lt hlt
    have e1 : [u8A x] = ints .u8 [x] := rfl
    (simp only [go_sem, Nat.reduceAdd, Nat.reduceMul, Int.reduceToNat, Nat.reduceLeDiff, Int.reduceLE, Int.reduceLT, ↓reduceIte, Int.reduceBEq, Int.reduceBNe, Int.reduceAdd, Int.reduceSub, Int.reduceMul, ew, e1]; try refine okTr_and rfl ?_)
    (repeat ((with_reducible refine And.intro ?_ ?_); (· exact sd)))
    refine FinK.wk (Wk.row 2 1 rfl (.inl rfl) (Nat.le_refl _)) ?_
    (simp only [go_sem, Nat.reduceAdd, Nat.reduceMul, Int.reduceToNat, Nat.reduceLeDiff, Int.reduceLE, Int.reduceLT, ↓reduceIte, Int.reduceBEq, Int.reduceBNe, Int.reduceAdd, Int.reduceSub, Int.reduceMul]; try refine okTr_and rfl ?_)
    ((refine FinK.finB r82 [0] ?_ ?_); (· first | with_reducible rfl | (simp [eb, ints_length]; done) | rfl); (· simp [resAL, resA1, loadA, oneOr, eb, ints_length]))
  · have hge : 128 ≤ x := by simp at h; omega
    have eb := vb_ge hge h1
    have hl := (vb_len (x / 128)).2
    have em : x.tmod 128 = x % 128 := Int.tmod_eq_emod_of_nonneg h0
    have ed : IntKind.u64.wrap (x.tdiv 128) = x / 128 := by rw [Int.tdiv_eq_ediv_of_nonneg h0, IntWalk.u64_in _ (by omega)]
    have ea : IntKind.u64.wrap (128 + x % 128) = 128 + x % 128 := IntWalk.u64_in _ (by omega)
    have eu : IntKind.u8.wrap (128 + x % 128) = 128 + x % 128 := IntWalk.u8_in _ (by omega)
    have e1 : [u8A (128 + x % 128)] = ints .u8 [128 + x % 128] := rfl
    (simp only [go_sem, Nat.reduceAdd, Nat.reduceMul, Int.reduceToNat, Nat.reduceLeDiff, Int.reduceLE, Int.reduceLT, ↓reduceIte, Int.reduceBEq, Int.reduceBNe, Int.reduceAdd, Int.reduceSub, Int.reduceMul, em, ed, ea, eu, e1]; try refine okTr_and rfl ?_)
    (repeat ((with_reducible refine And.intro ?_ ?_); (· exact sd)))
    refine CallK.p (ref04_Bytes (x / 128) (by omega) (by omega)) ?_
    (simp only [go_sem, Nat.reduceAdd, Nat.reduceMul, Int.reduceToNat, Nat.reduceLeDiff, Int.reduceLE, Int.reduceLT, ↓reduceIte, Int.reduceBEq, Int.reduceBNe, Int.reduceAdd, Int.reduceSub, Int.reduceMul, ints_append, ints_length]; try refine okTr_and rfl ?_)
    (repeat ((with_reducible refine And.intro ?_ ?_); (· exact sd)))
    ((refine FinK.finB r82 [0] ?_ ?_); (· first | with_reducible rfl | (simp [eb, ints_length, Nat.add_comm]; done) | rfl); (· simp [resAL, resA1, loadA, oneOr, eb, ints_length, Nat.add_comm]))
theorem ref04_BytesO (x : Int) (h0 : 0 ≤ x) (h1 : x < 18446744073709551616) : Ct Tryz.prog 82 [uA x] [] (fun n => ownA n (vb x)) [] (fun _ => [.row 1 (vb x).length]) := Ct.n (ref04_BytesO0 x h0 h1) cl cl clo

theorem ref06_Bytes0 (b : List Int) (hb : b.length ≤ 100000000000000) : Does Tryz.prog 83 [slA .u8 b] [] (ownA 0 (blobB b)) [.row 1 (blobB b).length] := by
  have e := len_u64 b (by omega)
  have hv := (vb_len b.length).2
  refine Does.runA Tryz.func83 b83 n83 Tryz.ntmps83 ?_; simp only [c83, go_sem, Nat.reduceAdd, Nat.reduceMul, Int.reduceToNat, Nat.reduceLeDiff, Int.reduceLE, Int.reduceLT, ↓reduceIte, Int.reduceBEq, Int.reduceBNe, Int.reduceAdd, Int.reduceSub, Int.reduceMul, ints_length, e]; try refine okTr_and rfl ?_
  refine CallK.n (ref04_BytesO b.length (by omega) (by omega)) ?_
  (simp only [go_sem, Nat.reduceAdd, Nat.reduceMul, Int.reduceToNat, Nat.reduceLeDiff, Int.reduceLE, Int.reduceLT, ↓reduceIte, Int.reduceBEq, Int.reduceBNe, Int.reduceAdd, Int.reduceSub, Int.reduceMul, ints_length, ints_append]; try refine okTr_and rfl ?_)
  (repeat ((with_reducible refine And.intro ?_ ?_); (· exact sd)))
  ((refine FinK.finB r83 [0] ?_ ?_); (· first | with_reducible rfl | (simp [blobB]; done) | rfl); (· simp [resAL, resA1, loadA, oneOr, blobB]))
theorem ref06_Bytes (b : List Int) (hb : b.length ≤ 100000000000000) : Ct Tryz.prog 83 [slA .u8 b] [] (fun n => ownA n (blobB b)) [] (fun _ => [.row 1 (blobB b).length]) := Ct.n (ref06_Bytes0 b hb) cl cl clo
end Go.Proofs.YtnfagphepkeedaaGreat
end
section
namespace Go.Proofs.YtnfagphepkeedaaGreat
open Go.RowKit

theorem div_pow (x : Int) (k : Nat) : x / 256 ^ k / 256 = x / 256 ^ (k + 1) := by
  have hp : (0 : Int) < 256 ^ k := Int.pow_pos (by omega)
  rw [Int.ediv_ediv_of_nonneg (by omega), Int.pow_succ]
theorem pen_Fixed0 (x n : Int) (h0 : 0 ≤ x) (h1 : x < 18446744073709551616) : Does Tryz.prog 71 [uA x, iA n] [] (slA .u8 (lowBytes (min (max n 0) 8).toNat x)) [] := by
  have e0 := mx0 n
  have e1 := mn (max n 0) 8
  obtain ⟨m, hm⟩ : ∃ m : Nat, (min (max n 0) 8).toNat = m := ⟨_, rfl⟩
  have hm8 : m ≤ 8 := by omega
  have hm' : min (max n 0) 8 = (m : Int) := by omega
  rw [hm'] at e1
  rw [hm]
  refine Does.runA Tryz.func71 b71 n71 Tryz.ntmps71 ?_; simp only [c71, go_sem, Nat.reduceAdd, Nat.reduceMul, Int.reduceToNat, Nat.reduceLeDiff, Int.reduceLE, Int.reduceLT, ↓reduceIte, Int.reduceBEq, Int.reduceBNe, Int.reduceAdd, Int.reduceSub, Int.reduceMul, e0, e1]; try refine okTr_and rfl ?_
  refine loop_of (α := Nat) (fun k => [uA (x / 256 ^ k), .any, .any, .any, .any, ownA 0 (lowBytes k x), .any, .any, iA m, iA k, .any, .any, .any, .any, .any, .any, .any, .any, .any, .any, .any]) (fun k => [.row 1 k]) (fun k => k ≤ m) (fun k => m - k) 0 (by simp) ((Wk.row 5 1 rfl (.inl rfl) (Nat.le_refl _)).trans (Wk.to (by simp) (by simp [leT, ints, lowBytes]))) ?_
  intro k hk
  have hq0 : 0 ≤ x / 256 ^ k := Int.ediv_nonneg h0 (Int.le_of_lt (Int.pow_pos (by omega)))
  have hq1 : x / 256 ^ k ≤ x := Int.ediv_le_self _ h0
  have hd := div_pow x k
  have hs := lowBytes_snoc k x
  have hl := lowBytes_len k x
  (simp only [go_sem, Nat.reduceAdd, Nat.reduceMul, Int.reduceToNat, Nat.reduceLeDiff, Int.reduceLE, Int.reduceLT, ↓reduceIte, Int.reduceBEq, Int.reduceBNe, Int.reduceAdd, Int.reduceSub, Int.reduceMul]; try refine okTr_and rfl ?_)
  refine cdK_split (fun h => ?_) (fun h => ?_)
  · have hlt : k < m := by simpa using h
    obtain ⟨y, hy⟩ : ∃ y, x / 256 ^ k = y := ⟨_, rfl⟩
    rw [hy] at hq0 hq1 hd hs
    have em : y.tmod 256 = y % 256 := Int.tmod_eq_emod_of_nonneg hq0
    have eu : IntKind.u8.wrap (y % 256) = y % 256 := IntWalk.u8_in _ (by omega)
    have ed : IntKind.u64.wrap (y.tdiv 256) = x / 256 ^ (k + 1) := by rw [Int.tdiv_eq_ediv_of_nonneg hq0, IntWalk.u64_in _ (by omega), hd]
    have ei := i64_succ k (by omega)
    (simp only [go_sem, Nat.reduceAdd, Nat.reduceMul, Int.reduceToNat, Nat.reduceLeDiff, Int.reduceLE, Int.reduceLT, ↓reduceIte, Int.reduceBEq, Int.reduceBNe, Int.reduceAdd, Int.reduceSub, Int.reduceMul, hy, em, eu, ed, ei, ints_snoc, ← hs, ints_length, hl]; try refine okTr_and rfl ?_)
    (repeat ((with_reducible refine And.intro ?_ ?_); (· exact sd)))
    exact ⟨k + 1, hlt, by omega, Wk.to (by simp) (by simp [leT])⟩
  · have ek : k = m := by simp at h; omega
    (simp only [go_sem, Nat.reduceAdd, Nat.reduceMul, Int.reduceToNat, Nat.reduceLeDiff, Int.reduceLE, Int.reduceLT, ↓reduceIte, Int.reduceBEq, Int.reduceBNe, Int.reduceAdd, Int.reduceSub, Int.reduceMul]; try refine okTr_and rfl ?_)
    (refine FinK.untag 4 rfl ?_; simp only [untag1_sl, List.set_cons_zero, List.set_cons_succ])
    ((refine FinK.finB r71 [] ?_ ?_); (· first | with_reducible rfl | (simp [ek]; done) | rfl); (· simp [resAL, resA1, loadA, oneOr, ek]))
theorem pen_Fixed (x n : Int) (h0 : 0 ≤ x) (h1 : x < 18446744073709551616) : Ct Tryz.prog 71 [uA x, iA n] [] (fun _ => slA .u8 (lowBytes (min (max n 0) 8).toNat x)) [] (fun _ => []) := (pen_Fixed0 x n h0 h1).toCt cl cl
theorem Writer_Fixed0 (s : WS) (x n : Int) (h0 : 0 ≤ x) (h1 : x < 18446744073709551616) (hs : s.fine) : Does Tryz.prog 154 [.ref 0 0, uA x, iA n] [wob 1 s, wrow s] (.tup []) [wob 1 (s.put (lowBytes (min (max n 0) 8).toNat x)), wrow (s.put (lowBytes (min (max n 0) 8).toNat x))] := by
  refine Does.runA Tryz.func154 b154 n154 Tryz.ntmps154 ?_; simp only [c154, go_sem, Nat.reduceAdd, Nat.reduceMul, Int.reduceToNat, Nat.reduceLeDiff, Int.reduceLE, Int.reduceLT, ↓reduceIte, Int.reduceBEq, Int.reduceBNe, Int.reduceAdd, Int.reduceSub, Int.reduceMul]; try refine okTr_and rfl ?_
  refine CallK.p (pen_Fixed x n h0 h1) ?_; (simp only [go_sem, Nat.reduceAdd, Nat.reduceMul, Int.reduceToNat, Nat.reduceLeDiff, Int.reduceLE, Int.reduceLT, ↓reduceIte, Int.reduceBEq, Int.reduceBNe, Int.reduceAdd, Int.reduceSub, Int.reduceMul]; try refine okTr_and rfl ?_)
  refine CallK.u2 (Writer_Put s _ 0 1 (by decide) hs.ok (hs.room _)) rfl rfl ?_; (simp only [go_sem, Nat.reduceAdd, Nat.reduceMul, Int.reduceToNat, Nat.reduceLeDiff, Int.reduceLE, Int.reduceLT, ↓reduceIte, Int.reduceBEq, Int.reduceBNe, Int.reduceAdd, Int.reduceSub, Int.reduceMul]; try refine okTr_and rfl ?_)
  exact FinK.finA r154 [0, 1]
theorem Writer_Fixed (s : WS) (x n : Int) (i j : Nat) (h : i ≠ j) (h0 : 0 ≤ x) (h1 : x < 18446744073709551616) (hs : s.fine) : Ct Tryz.prog 154 [.ref i 0, uA x, iA n] [(i, wob j s), (j, wrow s)] (fun _ => .tup []) [(i, wob j (s.put (lowBytes (min (max n 0) 8).toNat x))), (j, wrow (s.put (lowBytes (min (max n 0) 8).toNat x)))] (fun _ => []) := Ct.u2 (Writer_Fixed0 s x n h0 h1 hs) i j h cl cl cl cl cl (wob_dead _ _) (wrow_dead _) clo

end Go.Proofs.YtnfagphepkeedaaGreat
end
end
section
section
namespace Go.Proofs.YtnfagphepkeedaaGreat
open Go.RowKit

def dstR (b : Int) (l : List Int) : List Int := if falls b l = true then dsts b l l.length else []
theorem delta_Steps0 (b : Int) (l : List Int) (b0 : 0 ≤ b) (b1 : b < 18446744073709551616) (hl : U64s l) (hn : l.length * 8 ≤ 140737488355328) : Does Tryz.prog 187 [uA b, slU l] [] (.tup [slU (dstR b l), bA (falls b l)]) [] := by
  refine Does.runA Tryz.func187 b187 n187 Tryz.ntmps187 ?_; simp only [c187, go_sem, Nat.reduceAdd, Nat.reduceMul, Int.reduceToNat, Nat.reduceLeDiff, Int.reduceLE, Int.reduceLT, ↓reduceIte, Int.reduceBEq, Int.reduceBNe, Int.reduceAdd, Int.reduceSub, Int.reduceMul, ints_length]; try refine okTr_and rfl ?_
  refine loop_of (α := Nat) (fun k => [uA (bat b l k), .any, .any, .any, .any, .any, .sl (.row 0) 1 (ints .u64 (dsts b l k)), .any, .any, slU l, iA l.length, iA k, .any, .any, .any, .any, .any, .any, .any, .any, .any, .any, .any, .any, .any, .any, .any, .any]) (fun k => [.row 1 k]) (fun k => k ≤ l.length ∧ ∀ i, i < k → l.getD i 0 < bat b l i) (fun k => l.length - k) 0 ⟨by simp, by intro i hi; omega⟩ ((Wk.row 6 1 rfl (.inl rfl) (Nat.le_refl _)).trans (Wk.to (by simp) (by simp [leT, ints, dsts, bat]))) ?_
  rintro k ⟨hk, hf⟩
  have hbk : bat b l k < 18446744073709551616 := by
    unfold bat
    split
    · exact b1
    · exact (hl _ (getD_mem l (k - 1) (by omega))).2
  (simp only [go_sem, Nat.reduceAdd, Nat.reduceMul, Int.reduceToNat, Nat.reduceLeDiff, Int.reduceLE, Int.reduceLT, ↓reduceIte, Int.reduceBEq, Int.reduceBNe, Int.reduceAdd, Int.reduceSub, Int.reduceMul]; try refine okTr_and rfl ?_)
  refine cdK_split (fun h => ?_) (fun h => ?_)
  · have hlt : k < l.length := by simpa using h
    have g := u64_get l k hlt
    have hx := hl _ (getD_mem l k hlt)
    have ei := i64_succ k (by omega)
    (simp only [go_sem, Nat.reduceAdd, Nat.reduceMul, Int.reduceToNat, Nat.reduceLeDiff, Int.reduceLE, Int.reduceLT, ↓reduceIte, Int.reduceBEq, Int.reduceBNe, Int.reduceAdd, Int.reduceSub, Int.reduceMul, g, ints_length]; try refine okTr_and rfl ?_)
    (repeat ((with_reducible refine And.intro ?_ ?_); (· exact sd)))
    refine cdK_split (fun h => ?_) (fun h => ?_)
    · have h2 : bat b l k ≤ l.getD k 0 := by simpa using h
      have hno : falls b l = false := falls_not hlt h2
      (simp only [go_sem, Nat.reduceAdd, Nat.reduceMul, Int.reduceToNat, Nat.reduceLeDiff, Int.reduceLE, Int.reduceLT, ↓reduceIte, Int.reduceBEq, Int.reduceBNe, Int.reduceAdd, Int.reduceSub, Int.reduceMul]; try refine okTr_and rfl ?_)
      (refine FinK.untag 4 rfl ?_; simp only [untag1_sl, List.set_cons_zero, List.set_cons_succ])
      ((refine FinK.finB r187 [] ?_ ?_); (· first | with_reducible rfl | (simp [hno, dstR]; done) | rfl); (· simp [resAL, resA1, loadA, oneOr, hno, dstR]))
    · have h2 : l.getD k 0 < bat b l k := by simp at h; simpa using h
      have hs := dsts_succ b l k
      have e1 : IntKind.u64.wrap (bat b l k - l.getD k 0) = bat b l k - l.getD k 0 := IntWalk.u64_in _ (by omega)
      have e2 : IntKind.u64.wrap (bat b l k - l.getD k 0 - 1) = dst b l k := by rw [IntWalk.u64_in _ (by omega), dst_bat]; omega
      (simp only [go_sem, Nat.reduceAdd, Nat.reduceMul, Int.reduceToNat, Nat.reduceLeDiff, Int.reduceLE, Int.reduceLT, ↓reduceIte, Int.reduceBEq, Int.reduceBNe, Int.reduceAdd, Int.reduceSub, Int.reduceMul, e1, e2, ei, ints_snoc, ← hs, ints_length, dsts_len]; try refine okTr_and rfl ?_)
      (repeat ((with_reducible refine And.intro ?_ ?_); (· exact sd)))
      refine ⟨k + 1, ⟨hlt, fun i hi => ?_⟩, by omega, Wk.to (by simp) (by simp [leT, bat_succ])⟩
      rcases Nat.lt_or_ge i k with h3 | h3
      · exact hf i h3
      · obtain rfl : i = k := by omega
        exact h2
  · have ek : k = l.length := by simp at h; omega
    have hyes : falls b l = true := falls_bat.2 fun i hi => hf i (by omega)
    (simp only [go_sem, Nat.reduceAdd, Nat.reduceMul, Int.reduceToNat, Nat.reduceLeDiff, Int.reduceLE, Int.reduceLT, ↓reduceIte, Int.reduceBEq, Int.reduceBNe, Int.reduceAdd, Int.reduceSub, Int.reduceMul]; try refine okTr_and rfl ?_)
    (refine FinK.untag 4 rfl ?_; simp only [untag1_sl, List.set_cons_zero, List.set_cons_succ])
    ((refine FinK.finB r187 [] ?_ ?_); (· first | with_reducible rfl | (simp [hyes, dstR, ek]; done) | rfl); (· simp [resAL, resA1, loadA, oneOr, hyes, dstR, ek]))
theorem delta_Steps (b : Int) (l : List Int) (b0 : 0 ≤ b) (b1 : b < 18446744073709551616) (hl : U64s l) (hn : l.length * 8 ≤ 140737488355328) : Ct Tryz.prog 187 [uA b, slU l] [] (fun _ => .tup [slU (dstR b l), bA (falls b l)]) [] (fun _ => []) := (delta_Steps0 b l b0 b1 hl hn).toCt cl cl
theorem delta_Falls0 (b : Int) (l : List Int) (b0 : 0 ≤ b) (b1 : b < 18446744073709551616) (hl : U64s l) (hn : l.length * 8 ≤ 140737488355328) : Does Tryz.prog 185 [uA b, slU l] [] (bA (falls b l)) [] := by
  refine Does.runA Tryz.func185 b185 n185 Tryz.ntmps185 ?_; simp only [c185, go_sem, Nat.reduceAdd, Nat.reduceMul, Int.reduceToNat, Nat.reduceLeDiff, Int.reduceLE, Int.reduceLT, ↓reduceIte, Int.reduceBEq, Int.reduceBNe, Int.reduceAdd, Int.reduceSub, Int.reduceMul]; try refine okTr_and rfl ?_
  refine CallK.p (delta_Steps b l b0 b1 hl hn) ?_; (simp only [go_sem, Nat.reduceAdd, Nat.reduceMul, Int.reduceToNat, Nat.reduceLeDiff, Int.reduceLE, Int.reduceLT, ↓reduceIte, Int.reduceBEq, Int.reduceBNe, Int.reduceAdd, Int.reduceSub, Int.reduceMul]; try refine okTr_and rfl ?_)
  exact FinK.finA r185 []
theorem delta_Falls (b : Int) (l : List Int) (b0 : 0 ≤ b) (b1 : b < 18446744073709551616) (hl : U64s l) (hn : l.length * 8 ≤ 140737488355328) : Ct Tryz.prog 185 [uA b, slU l] [] (fun _ => bA (falls b l)) [] (fun _ => []) := (delta_Falls0 b l b0 b1 hl hn).toCt cl cl

def WS.fall (s : WS) (b : Int) (l : List Int) : WS := if falls b l = true then (s.put (vb l.length)).puts (dsts b l l.length) else s.fail 3
theorem delta_Put0 (s : WS) (b : Int) (l : List Int) (hs : s.fine) (b0 : 0 ≤ b) (b1 : b < 18446744073709551616) (hl : U64s l) (hn : l.length * 8 ≤ 140737488355328) : Does Tryz.prog 172 [.ref 0 0, uA b, slU l] [wob 1 s, wrow s] (.tup []) [wob 1 (s.fall b l), wrow (s.fall b l)] := by
  have e := len_u64 l (by omega)
  refine Does.runA Tryz.func172 b172 n172 Tryz.ntmps172 ?_; simp only [c172, go_sem, Nat.reduceAdd, Nat.reduceMul, Int.reduceToNat, Nat.reduceLeDiff, Int.reduceLE, Int.reduceLT, ↓reduceIte, Int.reduceBEq, Int.reduceBNe, Int.reduceAdd, Int.reduceSub, Int.reduceMul]; try refine okTr_and rfl ?_
  refine CallK.p (delta_Steps b l b0 b1 hl hn) ?_
  cases hf : falls b l
  · (simp only [go_sem, Nat.reduceAdd, Nat.reduceMul, Int.reduceToNat, Nat.reduceLeDiff, Int.reduceLE, Int.reduceLT, ↓reduceIte, Int.reduceBEq, Int.reduceBNe, Int.reduceAdd, Int.reduceSub, Int.reduceMul, hf]; try refine okTr_and rfl ?_)
    refine CallK.u2 (Writer_Fail s 3 0 1 (by decide)) rfl rfl ?_; (simp only [go_sem, Nat.reduceAdd, Nat.reduceMul, Int.reduceToNat, Nat.reduceLeDiff, Int.reduceLE, Int.reduceLT, ↓reduceIte, Int.reduceBEq, Int.reduceBNe, Int.reduceAdd, Int.reduceSub, Int.reduceMul]; try refine okTr_and rfl ?_)
    ((refine FinK.finB r172 [0, 1] ?_ ?_); (· first | with_reducible rfl | (simp [WS.fall, hf]; done) | rfl); (· simp [resAL, resA1, loadA, oneOr, WS.fall, hf]))
  · have hd : dstR b l = dsts b l l.length := by unfold dstR; rw [if_pos hf]
    (simp only [go_sem, Nat.reduceAdd, Nat.reduceMul, Int.reduceToNat, Nat.reduceLeDiff, Int.reduceLE, Int.reduceLT, ↓reduceIte, Int.reduceBEq, Int.reduceBNe, Int.reduceAdd, Int.reduceSub, Int.reduceMul, hf, hd, ints_length, e]; try refine okTr_and rfl ?_)
    refine CallK.u2 (varint_Put s l.length 0 1 (by decide) (by omega) (by omega) hs.ok (hs.room _)) rfl rfl ?_; (simp only [go_sem, Nat.reduceAdd, Nat.reduceMul, Int.reduceToNat, Nat.reduceLeDiff, Int.reduceLE, Int.reduceLT, ↓reduceIte, Int.reduceBEq, Int.reduceBNe, Int.reduceAdd, Int.reduceSub, Int.reduceMul, ints_length, dsts_len]; try refine okTr_and rfl ?_)
    refine loop_of (α := Nat) (fun k => [.ref 0 0, .any, .any, .any, .any, .any, .any, .any, .any, .any, .any, .any, .any, .any, .any, .any, .any, .any, .any, .any, .any, .any, .any, .any, .any, slU (dsts b l l.length), iA l.length, iA k, .any, .any, .any, .any, .any, .any, .any]) (fun k => [wob 1 ((s.put (vb l.length)).puts (dsts b l k)), wrow ((s.put (vb l.length)).puts (dsts b l k))]) (fun k => k ≤ l.length) (fun k => l.length - k) 0 (by simp) (Wk.to (by simp [WS.puts, dsts]) (by simp [leT])) ?_
    intro k hk
    (simp only [go_sem, Nat.reduceAdd, Nat.reduceMul, Int.reduceToNat, Nat.reduceLeDiff, Int.reduceLE, Int.reduceLT, ↓reduceIte, Int.reduceBEq, Int.reduceBNe, Int.reduceAdd, Int.reduceSub, Int.reduceMul]; try refine okTr_and rfl ?_)
    refine cdK_split (fun h => ?_) (fun h => ?_)
    · have hlt : k < l.length := by simpa using h
      have g : (ints .u64 (dsts b l l.length)).getD (k : Int).toNat .any = uA (dst b l k) := by rw [u64_get _ k (by rw [dsts_len]; exact hlt), dsts_get b l _ k hlt]
      have hx := dst_range b1 hl hf hlt
      have ei := i64_succ k (by omega)
      have hps := puts_snoc (s.put (vb l.length)) (dsts b l k) (dst b l k)
      rw [← dsts_succ] at hps
      (simp only [go_sem, Nat.reduceAdd, Nat.reduceMul, Int.reduceToNat, Nat.reduceLeDiff, Int.reduceLE, Int.reduceLT, ↓reduceIte, Int.reduceBEq, Int.reduceBNe, Int.reduceAdd, Int.reduceSub, Int.reduceMul, g, ints_length, dsts_len]; try refine okTr_and rfl ?_)
      (repeat ((with_reducible refine And.intro ?_ ?_); (· exact sd)))
      refine CallK.u2 (varint_Put _ (dst b l k) 0 1 (by decide) hx.1 hx.2 ((hs.put _).puts _).ok (((hs.put _).puts _).room _)) rfl rfl ?_; (simp only [go_sem, Nat.reduceAdd, Nat.reduceMul, Int.reduceToNat, Nat.reduceLeDiff, Int.reduceLE, Int.reduceLT, ↓reduceIte, Int.reduceBEq, Int.reduceBNe, Int.reduceAdd, Int.reduceSub, Int.reduceMul, ei, ← hps]; try refine okTr_and rfl ?_)
      exact ⟨k + 1, hlt, by omega, Wk.to (by simp) (by simp [leT])⟩
    · have ek : k = l.length := by simp at h; omega
      (simp only [go_sem, Nat.reduceAdd, Nat.reduceMul, Int.reduceToNat, Nat.reduceLeDiff, Int.reduceLE, Int.reduceLT, ↓reduceIte, Int.reduceBEq, Int.reduceBNe, Int.reduceAdd, Int.reduceSub, Int.reduceMul]; try refine okTr_and rfl ?_)
      ((refine FinK.finB r172 [0, 1] ?_ ?_); (· first | with_reducible rfl | (simp [WS.fall, hf, ek]; done) | rfl); (· simp [resAL, resA1, loadA, oneOr, WS.fall, hf, ek]))
theorem delta_Put (s : WS) (b : Int) (l : List Int) (i j : Nat) (h : i ≠ j) (hs : s.fine) (b0 : 0 ≤ b) (b1 : b < 18446744073709551616) (hl : U64s l) (hn : l.length * 8 ≤ 140737488355328) : Ct Tryz.prog 172 [.ref i 0, uA b, slU l] [(i, wob j s), (j, wrow s)] (fun _ => .tup []) [(i, wob j (s.fall b l)), (j, wrow (s.fall b l))] (fun _ => []) := Ct.u2 (delta_Put0 s b l hs b0 b1 hl hn) i j h cl cl cl cl cl (wob_dead _ _) (wrow_dead _) clo
theorem delta_Size0 (b : Int) (l : List Int) (b0 : 0 ≤ b) (b1 : b < 18446744073709551616) (hl : U64s l) (hn : l.length * 10 ≤ 140737488355328) : Does Tryz.prog 181 [uA b, slU l] [] (iA (if falls b l = true then (fallB b l).length else 0)) [] := by
  have e := len_u64 l (by omega)
  have eB : ((fallB b l).length : Int) = (vb l.length).length + (vbs (dsts b l l.length)).length := by simp [fallB]
  have hv := (vb_len l.length).2
  refine Does.runA Tryz.func181 b181 n181 Tryz.ntmps181 ?_; simp only [c181, go_sem, Nat.reduceAdd, Nat.reduceMul, Int.reduceToNat, Nat.reduceLeDiff, Int.reduceLE, Int.reduceLT, ↓reduceIte, Int.reduceBEq, Int.reduceBNe, Int.reduceAdd, Int.reduceSub, Int.reduceMul]; try refine okTr_and rfl ?_
  refine CallK.p (delta_Steps b l b0 b1 hl (by omega)) ?_
  cases hf : falls b l
  · (simp only [go_sem, Nat.reduceAdd, Nat.reduceMul, Int.reduceToNat, Nat.reduceLeDiff, Int.reduceLE, Int.reduceLT, ↓reduceIte, Int.reduceBEq, Int.reduceBNe, Int.reduceAdd, Int.reduceSub, Int.reduceMul, hf]; try refine okTr_and rfl ?_)
    ((refine FinK.finB r181 [] ?_ ?_); (· first | with_reducible rfl | (simp [hf]; done) | rfl); (· simp [resAL, resA1, loadA, oneOr, hf]))
  · have hd : dstR b l = dsts b l l.length := by unfold dstR; rw [if_pos hf]
    (simp only [go_sem, Nat.reduceAdd, Nat.reduceMul, Int.reduceToNat, Nat.reduceLeDiff, Int.reduceLE, Int.reduceLT, ↓reduceIte, Int.reduceBEq, Int.reduceBNe, Int.reduceAdd, Int.reduceSub, Int.reduceMul, hf, hd, ints_length, e]; try refine okTr_and rfl ?_)
    refine CallK.p (varint_Size l.length (by omega) (by omega)) ?_; (simp only [go_sem, Nat.reduceAdd, Nat.reduceMul, Int.reduceToNat, Nat.reduceLeDiff, Int.reduceLE, Int.reduceLT, ↓reduceIte, Int.reduceBEq, Int.reduceBNe, Int.reduceAdd, Int.reduceSub, Int.reduceMul, ints_length, dsts_len]; try refine okTr_and rfl ?_)
    refine loop_of (α := Nat) (fun k => [.any, .any, .any, .any, .any, .any, .any, iA ((vb l.length).length + (vbs (dsts b l k)).length), .any, .any, .any, .any, .any, .any, .any, .any, .any, .any, .any, .any, .any, .any, slU (dsts b l l.length), iA l.length, iA k, .any, .any, .any, .any, .any, .any, .any, .any, .any]) (fun _ => []) (fun k => k ≤ l.length) (fun k => l.length - k) 0 (by simp) (Wk.to (by simp) (by simp [leT, vbs, dsts])) ?_
    intro k hk
    (simp only [go_sem, Nat.reduceAdd, Nat.reduceMul, Int.reduceToNat, Nat.reduceLeDiff, Int.reduceLE, Int.reduceLT, ↓reduceIte, Int.reduceBEq, Int.reduceBNe, Int.reduceAdd, Int.reduceSub, Int.reduceMul]; try refine okTr_and rfl ?_)
    refine cdK_split (fun h => ?_) (fun h => ?_)
    · have hlt : k < l.length := by simpa using h
      have g : (ints .u64 (dsts b l l.length)).getD (k : Int).toNat .any = uA (dst b l k) := by rw [u64_get _ k (by rw [dsts_len]; exact hlt), dsts_get b l _ k hlt]
      have hx := dst_range b1 hl hf hlt
      have ei := i64_succ k (by omega)
      have h1 := vbs_len (dsts b l k)
      rw [dsts_len] at h1
      have h2 := (vb_len (dst b l k)).2
      have es : IntKind.i64.wrap (((vb (l.length : Int)).length : Int) + ((vbs (dsts b l k)).length : Int) + ((vb (dst b l k)).length : Int)) = (vb (l.length : Int)).length + (vbs (dsts b l (k + 1))).length := by
        rw [IntWalk.i64_in _ (by omega), dsts_succ, vbs_snoc, List.length_append]; omega
      (simp only [go_sem, Nat.reduceAdd, Nat.reduceMul, Int.reduceToNat, Nat.reduceLeDiff, Int.reduceLE, Int.reduceLT, ↓reduceIte, Int.reduceBEq, Int.reduceBNe, Int.reduceAdd, Int.reduceSub, Int.reduceMul, g, ints_length, dsts_len]; try refine okTr_and rfl ?_)
      (repeat ((with_reducible refine And.intro ?_ ?_); (· exact sd)))
      refine CallK.p (varint_Size _ hx.1 hx.2) ?_; (simp only [go_sem, Nat.reduceAdd, Nat.reduceMul, Int.reduceToNat, Nat.reduceLeDiff, Int.reduceLE, Int.reduceLT, ↓reduceIte, Int.reduceBEq, Int.reduceBNe, Int.reduceAdd, Int.reduceSub, Int.reduceMul, es, ei]; try refine okTr_and rfl ?_)
      exact ⟨k + 1, hlt, by omega, Wk.to (by simp) (by simp [leT])⟩
    · have ek : k = l.length := by simp at h; omega
      (simp only [go_sem, Nat.reduceAdd, Nat.reduceMul, Int.reduceToNat, Nat.reduceLeDiff, Int.reduceLE, Int.reduceLT, ↓reduceIte, Int.reduceBEq, Int.reduceBNe, Int.reduceAdd, Int.reduceSub, Int.reduceMul]; try refine okTr_and rfl ?_)
      ((refine FinK.finB r181 [] ?_ ?_); (· first | with_reducible rfl | (simp [ek, hf, eB]; done) | rfl); (· simp [resAL, resA1, loadA, oneOr, ek, hf, eB]))
theorem delta_Size (b : Int) (l : List Int) (b0 : 0 ≤ b) (b1 : b < 18446744073709551616) (hl : U64s l) (hn : l.length * 10 ≤ 140737488355328) : Ct Tryz.prog 181 [uA b, slU l] [] (fun _ => iA (if falls b l = true then (fallB b l).length else 0)) [] (fun _ => []) := (delta_Size0 b l b0 b1 hl hn).toCt cl cl
end Go.Proofs.YtnfagphepkeedaaGreat
end
section
namespace Go.Proofs.YtnfagphepkeedaaGreat
open Go.RowKit

theorem fallF_over {b : Int} {s : RS} {acc : List Int} (hx : blw b acc ≤ s.vint.2) : ((fallF b).f s acc).1 = s.vint.1.fail 13 s.at_ ∧ ¬ ((fallF b).f s acc).1.code = 0 := by
  show (if s.vint.1.code = 0 ∧ blw b acc ≤ s.vint.2 then (s.vint.1.fail 13 s.at_, (0 : Int)) else (s.vint.1, blw b acc - 1 - s.vint.2)).1 = _ ∧ _
  by_cases hc : s.vint.1.code = 0
  · refine ⟨by rw [if_pos ⟨hc, hx⟩], ?_⟩
    show ¬ (if s.vint.1.code = 0 ∧ blw b acc ≤ s.vint.2 then (s.vint.1.fail 13 s.at_, (0 : Int)) else (s.vint.1, blw b acc - 1 - s.vint.2)).1.code = 0
    rw [if_pos ⟨hc, hx⟩]; exact fail_not0 _ _ hc (by decide)
  · refine ⟨?_, ?_⟩
    · rw [if_neg fun h => hc h.1]; unfold RS.fail; rw [if_neg hc]
    · show ¬ (if s.vint.1.code = 0 ∧ blw b acc ≤ s.vint.2 then (s.vint.1.fail 13 s.at_, (0 : Int)) else (s.vint.1, blw b acc - 1 - s.vint.2)).1.code = 0
      rw [if_neg fun h => hc h.1]; exact hc
theorem fallF_fits {b : Int} {s : RS} {acc : List Int} (hx : s.vint.2 < blw b acc) : (fallF b).f s acc = (s.vint.1, blw b acc - 1 - s.vint.2) := by
  show (if s.vint.1.code = 0 ∧ blw b acc ≤ s.vint.2 then (s.vint.1.fail 13 s.at_, (0 : Int)) else (s.vint.1, blw b acc - 1 - s.vint.2)) = _
  rw [if_neg (by omega)]
set_option maxRecDepth 100000 in
theorem delta_Read0 (s : RS) (b m : Int) (b0 : 0 ≤ b) (b1 : b < 18446744073709551616) (m1 : m < 9223372036854775808) (hs : ROk s) (hn : s.l.length * 8 ≤ 140737488355328) : Does Tryz.prog 163 [.ref 0 0, uA b, iA m] [rdr s] (slU (s.fall b m).2) [rdr ((s.fall b m).1)] := by
  have hF := fallF_ok b1
  have hir := int_range (s := s) (m := m) hs.bys
  obtain ⟨hi1, hi2⟩ := hs.int m
  unfold RS.fall Fmt.counted
  refine Does.runA Tryz.func163 b163 n163 Tryz.ntmps163 ?_; simp only [c163, go_sem, Nat.reduceAdd, Nat.reduceMul, Int.reduceToNat, Nat.reduceLeDiff, Int.reduceLE, Int.reduceLT, ↓reduceIte, Int.reduceBEq, Int.reduceBNe, Int.reduceAdd, Int.reduceSub, Int.reduceMul]; try refine okTr_and rfl ?_
  refine CallK.u1 (varint_ReadInt s m 0 m1 hs.ok hs.bys) rfl ?_
  generalize hu : (s.int m).1 = u at *
  generalize (s.int m).2 = z at *
  obtain ⟨N, hN⟩ : ∃ N, z.toNat = N := ⟨_, rfl⟩
  have hz : z = (N : Int) := by omega
  subst hz
  rw [Int.toNat_natCast]
  (simp only [go_sem, Nat.reduceAdd, Nat.reduceMul, Int.reduceToNat, Nat.reduceLeDiff, Int.reduceLE, Int.reduceLT, ↓reduceIte, Int.reduceBEq, Int.reduceBNe, Int.reduceAdd, Int.reduceSub, Int.reduceMul]; try refine okTr_and rfl ?_)
  refine loop_of (α := RS × List Int) (fun a => [.ref 0 0, uA (blw b a.2), .any, .any, .any, .any, .any, .sl (.row 1) 1 (ints .u64 a.2), .any, .any, .any, .any, iA N, iA a.2.length, .any, .any, .any, .any, .any, .any, .any, .any, .any, .any, .any, .any, .any, .any, .any, .any, .any, .any, .any, .any, .any, .any, .any, .any]) (fun a => [rdr a.1, .row 1 a.2.length]) ((fallF b).On u N) (fun a => N - a.2.length) (u, []) (Fmt.On.start hi1 N) ((Wk.row 7 1 rfl (.inl rfl) (Nat.le_refl _)).trans (Wk.to (by simp) (by simp [leT, ints, blw]))) ?_
  rintro ⟨t, acc⟩ ho
  have hla := ho.len
  rw [hi2] at hla
  have h1 := ho.ok
  have h6 := ho.res
  have hw := fall_le ho.wf
  simp only at h1 h6 hw
  (simp only [go_sem, Nat.reduceAdd, Nat.reduceMul, Int.reduceToNat, Nat.reduceLeDiff, Int.reduceLE, Int.reduceLT, ↓reduceIte, Int.reduceBEq, Int.reduceBNe, Int.reduceAdd, Int.reduceSub, Int.reduceMul]; try refine okTr_and rfl ?_)
  refine cdK_split (fun h => ?_) (fun h => ?_)
  · have hlt : acc.length < N := by simpa using h
    have ei := i64_succ acc.length (by omega)
    have hx := vint_range (s := t) h1.bys
    (simp only [go_sem, Nat.reduceAdd, Nat.reduceMul, Int.reduceToNat, Nat.reduceLeDiff, Int.reduceLE, Int.reduceLT, ↓reduceIte, Int.reduceBEq, Int.reduceBNe, Int.reduceAdd, Int.reduceSub, Int.reduceMul]; try refine okTr_and rfl ?_)
    refine CallK.r1 (Reader_At t 0) rfl ?_; (simp only [go_sem, Nat.reduceAdd, Nat.reduceMul, Int.reduceToNat, Nat.reduceLeDiff, Int.reduceLE, Int.reduceLT, ↓reduceIte, Int.reduceBEq, Int.reduceBNe, Int.reduceAdd, Int.reduceSub, Int.reduceMul]; try refine okTr_and rfl ?_)
    refine CallK.u1 (varint_Read t 0 h1.ok h1.bys) rfl ?_; (simp only [go_sem, Nat.reduceAdd, Nat.reduceMul, Int.reduceToNat, Nat.reduceLeDiff, Int.reduceLE, Int.reduceLT, ↓reduceIte, Int.reduceBEq, Int.reduceBNe, Int.reduceAdd, Int.reduceSub, Int.reduceMul]; try refine okTr_and rfl ?_)
    by_cases hv : blw b acc ≤ t.vint.2
    · have q : decide (blw b acc ≤ t.vint.2) = true := by simpa using hv
      obtain ⟨o1, o2⟩ := fallF_over (b := b) (s := t) (acc := acc) hv
      have hb := many_bad (F := fallF b) (s := t) hlt o2
      rw [h6, o1] at hb
      rw [o1] at o2
      (simp only [go_sem, Nat.reduceAdd, Nat.reduceMul, Int.reduceToNat, Nat.reduceLeDiff, Int.reduceLE, Int.reduceLT, ↓reduceIte, Int.reduceBEq, Int.reduceBNe, Int.reduceAdd, Int.reduceSub, Int.reduceMul, q]; try refine okTr_and rfl ?_)
      refine CallK.u1 (Reader_Fail _ 13 _ 0) rfl ?_; (simp only [go_sem, Nat.reduceAdd, Nat.reduceMul, Int.reduceToNat, Nat.reduceLeDiff, Int.reduceLE, Int.reduceLT, ↓reduceIte, Int.reduceBEq, Int.reduceBNe, Int.reduceAdd, Int.reduceSub, Int.reduceMul]; try refine okTr_and rfl ?_)
      refine CallK.r1 (Reader_Good _ 0) rfl ?_; (simp only [go_sem, Nat.reduceAdd, Nat.reduceMul, Int.reduceToNat, Nat.reduceLeDiff, Int.reduceLE, Int.reduceLT, ↓reduceIte, Int.reduceBEq, Int.reduceBNe, Int.reduceAdd, Int.reduceSub, Int.reduceMul, good_false o2]; try refine okTr_and rfl ?_)
      (refine FinK.untag 6 rfl ?_; simp only [untag1_sl, List.set_cons_zero, List.set_cons_succ])
      ((refine FinK.finB r163 [0] ?_ ?_); (· first | with_reducible rfl | (simp [hb]; done) | rfl); (· simp [resAL, resA1, loadA, oneOr, hb]))
    · have q : decide (blw b acc ≤ t.vint.2) = false := by simpa using hv
      have hf := fallF_fits (b := b) (s := t) (acc := acc) (by omega)
      (simp only [go_sem, Nat.reduceAdd, Nat.reduceMul, Int.reduceToNat, Nat.reduceLeDiff, Int.reduceLE, Int.reduceLT, ↓reduceIte, Int.reduceBEq, Int.reduceBNe, Int.reduceAdd, Int.reduceSub, Int.reduceMul, q]; try refine okTr_and rfl ?_)
      refine CallK.r1 (Reader_Good _ 0) rfl ?_
      by_cases hc : t.vint.1.code = 0
      · have hnx := ho.next hF hlt (by rw [hf]; exact hc)
        rw [hf] at hnx
        have hl2 := hnx.len
        rw [List.length_append, List.length_singleton, hi2] at hl2
        have e1 : IntKind.u64.wrap (t.vint.2 + 1) = t.vint.2 + 1 := IntWalk.u64_in _ (by omega)
        have e2 : IntKind.u64.wrap (blw b acc - (t.vint.2 + 1)) = blw b acc - 1 - t.vint.2 := by rw [IntWalk.u64_in _ (by omega)]; omega
        (simp only [go_sem, Nat.reduceAdd, Nat.reduceMul, Int.reduceToNat, Nat.reduceLeDiff, Int.reduceLE, Int.reduceLT, ↓reduceIte, Int.reduceBEq, Int.reduceBNe, Int.reduceAdd, Int.reduceSub, Int.reduceMul, good_true hc, e1, e2, ints_snoc, ints_length, ei]; try refine okTr_and rfl ?_)
        (repeat ((with_reducible refine And.intro ?_ ?_); (· exact sd)))
        exact ⟨(t.vint.1, acc ++ [blw b acc - 1 - t.vint.2]), hnx, by simp; omega, Wk.to (by simp) (by simp [leT, blw_snoc])⟩
      · have hb := many_bad (F := fallF b) (s := t) (acc := acc) hlt (by rw [hf]; exact hc)
        rw [h6, hf] at hb
        (simp only [go_sem, Nat.reduceAdd, Nat.reduceMul, Int.reduceToNat, Nat.reduceLeDiff, Int.reduceLE, Int.reduceLT, ↓reduceIte, Int.reduceBEq, Int.reduceBNe, Int.reduceAdd, Int.reduceSub, Int.reduceMul, good_false hc]; try refine okTr_and rfl ?_)
        (refine FinK.untag 6 rfl ?_; simp only [untag1_sl, List.set_cons_zero, List.set_cons_succ])
        ((refine FinK.finB r163 [0] ?_ ?_); (· first | with_reducible rfl | (simp [hb]; done) | rfl); (· simp [resAL, resA1, loadA, oneOr, hb]))
  · have hge : N ≤ acc.length := by simpa using h
    have hb := many_end (F := fallF b) (s := t) hge
    rw [h6] at hb
    (simp only [go_sem, Nat.reduceAdd, Nat.reduceMul, Int.reduceToNat, Nat.reduceLeDiff, Int.reduceLE, Int.reduceLT, ↓reduceIte, Int.reduceBEq, Int.reduceBNe, Int.reduceAdd, Int.reduceSub, Int.reduceMul]; try refine okTr_and rfl ?_)
    (refine FinK.untag 6 rfl ?_; simp only [untag1_sl, List.set_cons_zero, List.set_cons_succ])
    ((refine FinK.finB r163 [0] ?_ ?_); (· first | with_reducible rfl | (simp [hb]; done) | rfl); (· simp [resAL, resA1, loadA, oneOr, hb]))
theorem delta_Read (s : RS) (b m : Int) (i : Nat) (b0 : 0 ≤ b) (b1 : b < 18446744073709551616) (m1 : m < 9223372036854775808) (hs : ROk s) (hn : s.l.length * 8 ≤ 140737488355328) : Ct Tryz.prog 163 [.ref i 0, uA b, iA m] [(i, rdr s)] (fun _ => slU (s.fall b m).2) [(i, rdr ((s.fall b m).1))] (fun _ => []) := Ct.u1 (delta_Read0 s b m b0 b1 m1 hs hn) i cl (fun ρ => rdr_ren ρ _) (fun ρ => rdr_ren ρ _) (rdr_dead _) cl

theorem ref22_Falls0 (b : Int) (l : List Int) (hn : l.length ≤ 140737488355328) : Does Tryz.prog 188 [uA b, slU l] [] (bA (falls b l)) [] := by
  refine Does.runA Tryz.func188 b188 n188 Tryz.ntmps188 ?_; simp only [c188, go_sem, Nat.reduceAdd, Nat.reduceMul, Int.reduceToNat, Nat.reduceLeDiff, Int.reduceLE, Int.reduceLT, ↓reduceIte, Int.reduceBEq, Int.reduceBNe, Int.reduceAdd, Int.reduceSub, Int.reduceMul]; try refine okTr_and rfl ?_
  refine loop_of (α := Nat) (fun k => [uA b, slU l, .any, .any, .any, iA k, .any, .any, .any, .any, .any, .any, .any, .any, .any, .any, .any, .any, .any, .any, .any, .any, .any, .any, .any, .any, .any, .any, .any, .any, .any, .any, .any, .any, .any, .any, .any]) (fun _ => []) (fun k => k ≤ l.length ∧ ∀ i, i < k → l.getD i 0 < bat b l i) (fun k => l.length - k) 0 ⟨by simp, by intro i hi; omega⟩ (Wk.to (by simp) (by simp [leT])) ?_
  rintro k ⟨hk, hf⟩
  (simp only [go_sem, Nat.reduceAdd, Nat.reduceMul, Int.reduceToNat, Nat.reduceLeDiff, Int.reduceLE, Int.reduceLT, ↓reduceIte, Int.reduceBEq, Int.reduceBNe, Int.reduceAdd, Int.reduceSub, Int.reduceMul, ints_length]; try refine okTr_and rfl ?_)
  refine cdK_split (fun h => ?_) (fun h => ?_)
  · have hlt : k < l.length := by simpa using h
    have g := u64_get l k hlt
    have ei := i64_succ k (by omega)
    have key : ∀ w, w = decide (bat b l k ≤ l.getD k 0) → (w = true → falls b l = false) ∧ (w = false → ∀ i, i < k + 1 → l.getD i 0 < bat b l i) := by
      rintro w rfl
      refine ⟨fun hw => falls_not hlt (of_decide_eq_true hw), fun hw i hi => ?_⟩
      rcases Nat.lt_or_ge i k with h3 | h3
      · exact hf i h3
      · obtain rfl : i = k := by omega
        simp at hw; simpa using hw
    obtain ⟨w, hw⟩ : ∃ w, decide (bat b l k ≤ l.getD k 0) = w := ⟨_, rfl⟩
    obtain ⟨k1, k2⟩ := key w hw.symm
    rcases Nat.eq_zero_or_pos k with hz | hz
    · have q1 : ((k : Int) == 0) = true := by simp; omega
      have q2 : decide ((0 : Int) < k) = false := by simp; omega
      have hw' : decide (b ≤ l.getD 0 0) = w := by rw [← hw, hz]; rfl
      have g0 : (ints .u64 l).getD 0 .any = uA (l.getD 0 0) := ints_getD .u64 l 0 (by omega)
      cases hww : w
      · (simp only [go_sem, Nat.reduceAdd, Nat.reduceMul, Int.reduceToNat, Nat.reduceLeDiff, Int.reduceLE, Int.reduceLT, ↓reduceIte, Int.reduceBEq, Int.reduceBNe, Int.reduceAdd, Int.reduceSub, Int.reduceMul, q1, q2, g0, hw', hww, ints_length, ei]; try refine okTr_and rfl ?_)
        (repeat ((with_reducible refine And.intro ?_ ?_); (· exact sd)))
        exact ⟨k + 1, ⟨hlt, k2 hww⟩, by omega, Wk.to (by simp) (by simp [leT])⟩
      · (simp only [go_sem, Nat.reduceAdd, Nat.reduceMul, Int.reduceToNat, Nat.reduceLeDiff, Int.reduceLE, Int.reduceLT, ↓reduceIte, Int.reduceBEq, Int.reduceBNe, Int.reduceAdd, Int.reduceSub, Int.reduceMul, q1, q2, g0, hw', hww, ints_length, ei]; try refine okTr_and rfl ?_)
        (repeat ((with_reducible refine And.intro ?_ ?_); (· exact sd)))
        ((refine FinK.finB r188 [] ?_ ?_); (· first | with_reducible rfl | (simp [k1 hww]; done) | rfl); (· simp [resAL, resA1, loadA, oneOr, k1 hww]))
    · have q1 : ((k : Int) == 0) = false := by simp; omega
      have q2 : decide ((0 : Int) < k) = true := by simp; omega
      have ej : IntKind.i64.wrap ((k : Int) - 1) = ((k - 1 : Nat) : Int) := by rw [IntWalk.i64_in _ (by omega)]; omega
      have g2 := u64_get l (k - 1) (by omega)
      have hw' : decide (l.getD (k - 1) 0 ≤ l.getD k 0) = w := by rw [← hw]; unfold bat; rw [if_neg (by omega)]
      cases hww : w
      · (simp only [go_sem, Nat.reduceAdd, Nat.reduceMul, Int.reduceToNat, Nat.reduceLeDiff, Int.reduceLE, Int.reduceLT, ↓reduceIte, Int.reduceBEq, Int.reduceBNe, Int.reduceAdd, Int.reduceSub, Int.reduceMul, q1, q2, ej, g, g2, hw', hww, ints_length, ei]; try refine okTr_and rfl ?_)
        (repeat ((with_reducible refine And.intro ?_ ?_); (· exact sd)))
        exact ⟨k + 1, ⟨hlt, k2 hww⟩, by omega, Wk.to (by simp) (by simp [leT])⟩
      · (simp only [go_sem, Nat.reduceAdd, Nat.reduceMul, Int.reduceToNat, Nat.reduceLeDiff, Int.reduceLE, Int.reduceLT, ↓reduceIte, Int.reduceBEq, Int.reduceBNe, Int.reduceAdd, Int.reduceSub, Int.reduceMul, q1, q2, ej, g, g2, hw', hww, ints_length, ei]; try refine okTr_and rfl ?_)
        (repeat ((with_reducible refine And.intro ?_ ?_); (· exact sd)))
        ((refine FinK.finB r188 [] ?_ ?_); (· first | with_reducible rfl | (simp [k1 hww]; done) | rfl); (· simp [resAL, resA1, loadA, oneOr, k1 hww]))
  · have hyes : falls b l = true := falls_bat.2 fun i hi => hf i (by simp at h; omega)
    (simp only [go_sem, Nat.reduceAdd, Nat.reduceMul, Int.reduceToNat, Nat.reduceLeDiff, Int.reduceLE, Int.reduceLT, ↓reduceIte, Int.reduceBEq, Int.reduceBNe, Int.reduceAdd, Int.reduceSub, Int.reduceMul]; try refine okTr_and rfl ?_)
    ((refine FinK.finB r188 [] ?_ ?_); (· first | with_reducible rfl | (simp [hyes]; done) | rfl); (· simp [resAL, resA1, loadA, oneOr, hyes]))
theorem ref22_Falls (b : Int) (l : List Int) (hn : l.length ≤ 140737488355328) : Ct Tryz.prog 188 [uA b, slU l] [] (fun _ => bA (falls b l)) [] (fun _ => []) := (ref22_Falls0 b l hn).toCt cl cl
theorem ref22_Steps0 (b : Int) (l : List Int) (b1 : b < 18446744073709551616) (hl : U64s l) (hf : falls b l = true) (hn : l.length * 8 ≤ 140737488355328) : Does Tryz.prog 191 [uA b, slU l] [] (slU (dsts b l l.length)) [] := by
  refine Does.runA Tryz.func191 b191 n191 Tryz.ntmps191 ?_; simp only [c191, go_sem, Nat.reduceAdd, Nat.reduceMul, Int.reduceToNat, Nat.reduceLeDiff, Int.reduceLE, Int.reduceLT, ↓reduceIte, Int.reduceBEq, Int.reduceBNe, Int.reduceAdd, Int.reduceSub, Int.reduceMul]; try refine okTr_and rfl ?_
  refine loop_of (α := Nat) (fun k => [uA b, slU l, .any, .any, .any, .sl (.row 0) 1 (ints .u64 (dsts b l k)), iA k, .any, .any, .any, .any, .any, .any, .any, .any, .any, .any, .any, .any, .any, .any, .any, .any, .any, .any, .any, .any, .any, .any, .any, .any, .any, .any]) (fun k => [.row 1 k]) (fun k => k ≤ l.length) (fun k => l.length - k) 0 (by simp) ((Wk.row 5 1 rfl (.inl rfl) (Nat.le_refl _)).trans (Wk.to (by simp) (by simp [leT, ints, dsts]))) ?_
  intro k hk
  (simp only [go_sem, Nat.reduceAdd, Nat.reduceMul, Int.reduceToNat, Nat.reduceLeDiff, Int.reduceLE, Int.reduceLT, ↓reduceIte, Int.reduceBEq, Int.reduceBNe, Int.reduceAdd, Int.reduceSub, Int.reduceMul, ints_length]; try refine okTr_and rfl ?_)
  refine cdK_split (fun h => ?_) (fun h => ?_)
  · have hlt : k < l.length := by simpa using h
    have g := u64_get l k hlt
    have ei := i64_succ k (by omega)
    have hx := hl _ (getD_mem l k hlt)
    have hb := falls_bat.1 hf k hlt
    have hs := dsts_succ b l k
    have hbk : bat b l k < 18446744073709551616 := by
      unfold bat
      split
      · exact b1
      · exact (hl _ (getD_mem l (k - 1) (by omega))).2
    have e1 : IntKind.u64.wrap (bat b l k - 1) = bat b l k - 1 := IntWalk.u64_in _ (by omega)
    have e2 : IntKind.u64.wrap (bat b l k - 1 - l.getD k 0) = dst b l k := by rw [IntWalk.u64_in _ (by omega), dst_bat]
    rcases Nat.eq_zero_or_pos k with hz | hz
    · have q2 : decide ((0 : Int) < k) = false := by simp; omega
      have hbe : bat b l k = b := by unfold bat; rw [if_pos hz]
      rw [hbe] at e1 e2
      (simp only [go_sem, Nat.reduceAdd, Nat.reduceMul, Int.reduceToNat, Nat.reduceLeDiff, Int.reduceLE, Int.reduceLT, ↓reduceIte, Int.reduceBEq, Int.reduceBNe, Int.reduceAdd, Int.reduceSub, Int.reduceMul, q2, g, e1, e2, ints_snoc, ← hs, ints_length, dsts_len, ei]; try refine okTr_and rfl ?_)
      (repeat ((with_reducible refine And.intro ?_ ?_); (· exact sd)))
      exact ⟨k + 1, hlt, by omega, Wk.to (by simp) (by simp [leT])⟩
    · have q2 : decide ((0 : Int) < k) = true := by simp; omega
      have ej : IntKind.i64.wrap ((k : Int) - 1) = ((k - 1 : Nat) : Int) := by rw [IntWalk.i64_in _ (by omega)]; omega
      have g2 := u64_get l (k - 1) (by omega)
      have hbe : bat b l k = l.getD (k - 1) 0 := by unfold bat; rw [if_neg (by omega)]
      rw [hbe] at e1 e2
      (simp only [go_sem, Nat.reduceAdd, Nat.reduceMul, Int.reduceToNat, Nat.reduceLeDiff, Int.reduceLE, Int.reduceLT, ↓reduceIte, Int.reduceBEq, Int.reduceBNe, Int.reduceAdd, Int.reduceSub, Int.reduceMul, q2, ej, g, g2, e1, e2, ints_snoc, ← hs, ints_length, dsts_len, ei]; try refine okTr_and rfl ?_)
      (repeat ((with_reducible refine And.intro ?_ ?_); (· exact sd)))
      exact ⟨k + 1, hlt, by omega, Wk.to (by simp) (by simp [leT])⟩
  · have ek : k = l.length := by simp at h; omega
    (simp only [go_sem, Nat.reduceAdd, Nat.reduceMul, Int.reduceToNat, Nat.reduceLeDiff, Int.reduceLE, Int.reduceLT, ↓reduceIte, Int.reduceBEq, Int.reduceBNe, Int.reduceAdd, Int.reduceSub, Int.reduceMul]; try refine okTr_and rfl ?_)
    (refine FinK.untag 4 rfl ?_; simp only [untag1_sl, List.set_cons_zero, List.set_cons_succ])
    ((refine FinK.finB r191 [] ?_ ?_); (· first | with_reducible rfl | (simp [ek]; done) | rfl); (· simp [resAL, resA1, loadA, oneOr, ek]))
theorem ref22_Steps (b : Int) (l : List Int) (b1 : b < 18446744073709551616) (hl : U64s l) (hf : falls b l = true) (hn : l.length * 8 ≤ 140737488355328) : Ct Tryz.prog 191 [uA b, slU l] [] (fun _ => slU (dsts b l l.length)) [] (fun _ => []) := (ref22_Steps0 b l b1 hl hf hn).toCt cl cl
theorem ref22_Bytes0 (b : Int) (l : List Int) (b1 : b < 18446744073709551616) (hl : U64s l) (hf : falls b l = true) (hn : l.length * 10 ≤ 100000000000000) : Does Tryz.prog 177 [uA b, slU l] [] (ownA 0 (fallB b l)) [.row 1 (fallB b l).length] := by
  have e := len_u64 l (by omega)
  have hv := (vb_len l.length).2
  refine Does.runA Tryz.func177 b177 n177 Tryz.ntmps177 ?_; simp only [c177, go_sem, Nat.reduceAdd, Nat.reduceMul, Int.reduceToNat, Nat.reduceLeDiff, Int.reduceLE, Int.reduceLT, ↓reduceIte, Int.reduceBEq, Int.reduceBNe, Int.reduceAdd, Int.reduceSub, Int.reduceMul, ints_length, e]; try refine okTr_and rfl ?_
  refine CallK.n (ref04_BytesO l.length (by omega) (by omega)) ?_; (simp only [go_sem, Nat.reduceAdd, Nat.reduceMul, Int.reduceToNat, Nat.reduceLeDiff, Int.reduceLE, Int.reduceLT, ↓reduceIte, Int.reduceBEq, Int.reduceBNe, Int.reduceAdd, Int.reduceSub, Int.reduceMul]; try refine okTr_and rfl ?_)
  refine CallK.p (ref22_Steps b l b1 hl hf (by omega)) ?_; (simp only [go_sem, Nat.reduceAdd, Nat.reduceMul, Int.reduceToNat, Nat.reduceLeDiff, Int.reduceLE, Int.reduceLT, ↓reduceIte, Int.reduceBEq, Int.reduceBNe, Int.reduceAdd, Int.reduceSub, Int.reduceMul]; try refine okTr_and rfl ?_)
  refine loop_of (α := Nat) (fun k => [.any, .any, .any, .any, .any, ownA 0 (vb l.length ++ vbs (dsts b l k)), slU (dsts b l l.length), iA k, .any, .any, .any, .any, .any, .any, .any, .any, .any, .any, .any, .any, .any, .any, .any, .any, .any, .any, .any, .any, .any]) (fun k => [.row 1 (vb l.length ++ vbs (dsts b l k)).length]) (fun k => k ≤ l.length) (fun k => l.length - k) 0 (by simp) (Wk.to (by simp [vbs, dsts]) (by simp [leT, vbs, dsts])) ?_
  intro k hk
  (simp only [go_sem, Nat.reduceAdd, Nat.reduceMul, Int.reduceToNat, Nat.reduceLeDiff, Int.reduceLE, Int.reduceLT, ↓reduceIte, Int.reduceBEq, Int.reduceBNe, Int.reduceAdd, Int.reduceSub, Int.reduceMul, ints_length, dsts_len]; try refine okTr_and rfl ?_)
  refine cdK_split (fun h => ?_) (fun h => ?_)
  · have hlt : k < l.length := by simpa using h
    have g : (ints .u64 (dsts b l l.length)).getD (k : Int).toNat .any = uA (dst b l k) := by rw [u64_get _ k (by rw [dsts_len]; exact hlt), dsts_get b l _ k hlt]
    have hx := dst_range b1 hl hf hlt
    have ei := i64_succ k (by omega)
    have h1 := vbs_len (dsts b l k)
    rw [dsts_len] at h1
    have h2 := (vb_len (dst b l k)).2
    have hs : vbs (dsts b l k) ++ vb (dst b l k) = vbs (dsts b l (k + 1)) := by rw [dsts_succ, vbs_snoc]
    have hsl := congrArg List.length hs
    rw [List.length_append] at hsl
    (simp only [go_sem, Nat.reduceAdd, Nat.reduceMul, Int.reduceToNat, Nat.reduceLeDiff, Int.reduceLE, Int.reduceLT, ↓reduceIte, Int.reduceBEq, Int.reduceBNe, Int.reduceAdd, Int.reduceSub, Int.reduceMul, g, ints_length, dsts_len]; try refine okTr_and rfl ?_)
    (repeat ((with_reducible refine And.intro ?_ ?_); (· exact sd)))
    refine CallK.p (ref04_Bytes _ hx.1 hx.2) ?_
    (simp only [go_sem, Nat.reduceAdd, Nat.reduceMul, Int.reduceToNat, Nat.reduceLeDiff, Int.reduceLE, Int.reduceLT, ↓reduceIte, Int.reduceBEq, Int.reduceBNe, Int.reduceAdd, Int.reduceSub, Int.reduceMul, ints_append, ints_length, ei, List.append_assoc, hs]; try refine okTr_and rfl ?_)
    (repeat ((with_reducible refine And.intro ?_ ?_); (· exact sd)))
    exact ⟨k + 1, hlt, by omega, Wk.to (by simp; omega) (by simp [leT])⟩
  · have ek : k = l.length := by simp at h; omega
    (simp only [go_sem, Nat.reduceAdd, Nat.reduceMul, Int.reduceToNat, Nat.reduceLeDiff, Int.reduceLE, Int.reduceLT, ↓reduceIte, Int.reduceBEq, Int.reduceBNe, Int.reduceAdd, Int.reduceSub, Int.reduceMul]; try refine okTr_and rfl ?_)
    ((refine FinK.finB r177 [0] ?_ ?_); (· first | with_reducible rfl | (simp [ek, fallB]; done) | rfl); (· simp [resAL, resA1, loadA, oneOr, ek, fallB]))
theorem ref22_Bytes (b : Int) (l : List Int) (b1 : b < 18446744073709551616) (hl : U64s l) (hf : falls b l = true) (hn : l.length * 10 ≤ 100000000000000) : Ct Tryz.prog 177 [uA b, slU l] [] (fun n => ownA n (fallB b l)) [] (fun _ => [.row 1 (fallB b l).length]) := Ct.n (ref22_Bytes0 b l b1 hl hf hn) cl cl clo

end Go.Proofs.YtnfagphepkeedaaGreat
end
end
section
namespace Go.Proofs.YtnfagphepkeedaaGreat
open Go.RowKit

/-- A link, links. -/
abbrev lkA (x : Lk) : AV := .agg [uA x.st, slU x.bk]
def lks (l : List Lk) : List AV := l.map lkA
abbrev slL (l : List Lk) : AV := .sl .none 2 (lks l)
@[simp] theorem ren_lks (ρ : Nat → Nat) (l : List Lk) : (lks l).map (fun x => x.ren ρ) = lks l := by
  have h : ∀ (k : IntKind) (m : List Int), (ints k m).map (fun x => x.ren ρ) = ints k m := ren_ints ρ
  simp [lks, ixs_z]
@[simp] theorem ren_ints_l (ρ : Nat → Nat) (k : IntKind) (l : List Int) : (ints k l).map (fun x => x.ren ρ) = ints k l := ren_ints ρ k l
theorem lks_length (l : List Lk) : (lks l).length = l.length := by simp [lks]
theorem lks_nil : lks [] = [] := (rfl)
theorem lks_snoc (l : List Lk) (x : Lk) : lks l ++ [lkA x] = lks (l ++ [x]) := by simp [lks]
theorem lks_get (l : List Lk) (k : Nat) (h : k < l.length) : (lks l).getD k .any = lkA (l.getD k lk0) := by simp [lks, h]
theorem lk_take (l : List Lk) (k : Nat) (h : k < l.length) : l.take (k + 1) = l.take k ++ [l.getD k lk0] := by
  rw [List.take_succ_eq_append_getElem h]; simp [h]
theorem Lks.take {l : List Lk} (h : Lks l) (k : Nat) : Lks (l.take k) := fun x hx => h x (List.mem_of_mem_take hx)
theorem i64_pred (k : Nat) (h0 : 0 < k) (h : k < 140737488355328) : IntKind.i64.wrap ((k : Int) - 1) = ((k - 1 : Nat) : Int) := by rw [IntWalk.i64_in _ (by omega)]; omega
theorem link_stream0 (x : Lk) : Does Tryz.prog 183 [lkA x] [] (uA x.st) [] := by
  refine Does.runA Tryz.func183 b183 n183 Tryz.ntmps183 ?_; simp only [c183, go_sem, Nat.reduceAdd, Nat.reduceMul, Int.reduceToNat, Nat.reduceLeDiff, Int.reduceLE, Int.reduceLT, ↓reduceIte, Int.reduceBEq, Int.reduceBNe, Int.reduceAdd, Int.reduceSub, Int.reduceMul]; try refine okTr_and rfl ?_
  exact FinK.finA r183 []
theorem link_stream (x : Lk) : Ct Tryz.prog 183 [lkA x] [] (fun _ => uA x.st) [] (fun _ => []) := (link_stream0 x).toCt cl cl
set_option maxRecDepth 100000 in
theorem link_rises0 (l : List Lk) (hn : l.length ≤ 1000000) : Does Tryz.prog 182 [slL l, .fn 183 [] []] [] (bA (risesL l)) [] := by
  refine Does.runA Tryz.func182 b182 n182 Tryz.ntmps182 ?_; simp only [c182, go_sem, Nat.reduceAdd, Nat.reduceMul, Int.reduceToNat, Nat.reduceLeDiff, Int.reduceLE, Int.reduceLT, ↓reduceIte, Int.reduceBEq, Int.reduceBNe, Int.reduceAdd, Int.reduceSub, Int.reduceMul, lks_length]; try refine okTr_and rfl ?_
  refine loop_of (α := Nat) (fun k => [slL l, .fn 183 [] [], .any, .any, .any, .any, .any, iA l.length, iA k, .any, .any, .any, .any, .any, .any, .any, .any, .any, .any, .any, .any, .any, .any, .any, .any, .any, .any, .any, .any, .any]) (fun _ => []) (fun k => k ≤ l.length ∧ ∀ i, i < k → 0 < i → (l.getD (i - 1) lk0).st < (l.getD i lk0).st) (fun k => l.length - k) 0 ⟨by simp, fun i hi => by omega⟩ (Wk.to (by simp) (by simp [leT])) ?_
  rintro k ⟨hk, hall⟩
  (simp only [go_sem, Nat.reduceAdd, Nat.reduceMul, Int.reduceToNat, Nat.reduceLeDiff, Int.reduceLE, Int.reduceLT, ↓reduceIte, Int.reduceBEq, Int.reduceBNe, Int.reduceAdd, Int.reduceSub, Int.reduceMul]; try refine okTr_and rfl ?_)
  by_cases hlt : k < l.length
  · have q1 : decide ((k : Int) < (l.length : Int)) = true := by simp; omega
    have ek := i64_succ k (by omega)
    have g := lks_get l k hlt
    by_cases h0 : 0 < k
    · have q2 : decide ((0 : Int) < (k : Int)) = true := by simp; omega
      have ep := i64_pred k h0 (by omega)
      have g2 := lks_get l (k - 1) (by omega)
      (simp only [go_sem, Nat.reduceAdd, Nat.reduceMul, Int.reduceToNat, Nat.reduceLeDiff, Int.reduceLE, Int.reduceLT, ↓reduceIte, Int.reduceBEq, Int.reduceBNe, Int.reduceAdd, Int.reduceSub, Int.reduceMul, q1, q2, g, lks_length, Int.toNat_natCast]; try refine okTr_and rfl ?_)
      (repeat ((with_reducible refine And.intro ?_ ?_); (· exact sd)))
      refine CallK.p (link_stream (l.getD k lk0)) ?_; (simp only [go_sem, Nat.reduceAdd, Nat.reduceMul, Int.reduceToNat, Nat.reduceLeDiff, Int.reduceLE, Int.reduceLT, ↓reduceIte, Int.reduceBEq, Int.reduceBNe, Int.reduceAdd, Int.reduceSub, Int.reduceMul, ep, g2, lks_length, Int.toNat_natCast]; try refine okTr_and rfl ?_)
      (repeat ((with_reducible refine And.intro ?_ ?_); (· exact sd)))
      refine CallK.p (link_stream (l.getD (k - 1) lk0)) ?_
      by_cases hs : (l.getD k lk0).st ≤ (l.getD (k - 1) lk0).st
      · have q3 : decide ((l.getD k lk0).st ≤ (l.getD (k - 1) lk0).st) = true := by simpa using hs
        have e : risesL l = false := by
          cases hr : risesL l with
          | false => rfl
          | true => have := risesL_iff.1 hr k hlt h0; omega
        (simp only [go_sem, Nat.reduceAdd, Nat.reduceMul, Int.reduceToNat, Nat.reduceLeDiff, Int.reduceLE, Int.reduceLT, ↓reduceIte, Int.reduceBEq, Int.reduceBNe, Int.reduceAdd, Int.reduceSub, Int.reduceMul, q3]; try refine okTr_and rfl ?_)
        ((refine FinK.finB r182 [] ?_ ?_); (· first | with_reducible rfl | (simp [e]; done) | rfl); (· simp [resAL, resA1, loadA, oneOr, e]))
      · have q3 : decide ((l.getD k lk0).st ≤ (l.getD (k - 1) lk0).st) = false := by simpa using hs
        (simp only [go_sem, Nat.reduceAdd, Nat.reduceMul, Int.reduceToNat, Nat.reduceLeDiff, Int.reduceLE, Int.reduceLT, ↓reduceIte, Int.reduceBEq, Int.reduceBNe, Int.reduceAdd, Int.reduceSub, Int.reduceMul, q3, ek]; try refine okTr_and rfl ?_)
        exact ⟨k + 1, ⟨hlt, fun i hi h1 => by
          rcases Nat.lt_or_ge i k with h | h
          · exact hall i h h1
          · obtain rfl : i = k := by omega
            omega⟩, by omega, Wk.to (by simp) (by simp [leT])⟩
    · have q2 : decide ((0 : Int) < (k : Int)) = false := by simp; omega
      (simp only [go_sem, Nat.reduceAdd, Nat.reduceMul, Int.reduceToNat, Nat.reduceLeDiff, Int.reduceLE, Int.reduceLT, ↓reduceIte, Int.reduceBEq, Int.reduceBNe, Int.reduceAdd, Int.reduceSub, Int.reduceMul, q1, q2, ek]; try refine okTr_and rfl ?_)
      exact ⟨k + 1, ⟨hlt, fun i hi h1 => by omega⟩, by omega, Wk.to (by simp) (by simp [leT])⟩
  · have q1 : decide ((k : Int) < (l.length : Int)) = false := by simp; omega
    have e : risesL l = true := risesL_iff.2 fun i hi h0 => hall i (by omega) h0
    (simp only [go_sem, Nat.reduceAdd, Nat.reduceMul, Int.reduceToNat, Nat.reduceLeDiff, Int.reduceLE, Int.reduceLT, ↓reduceIte, Int.reduceBEq, Int.reduceBNe, Int.reduceAdd, Int.reduceSub, Int.reduceMul, q1]; try refine okTr_and rfl ?_)
    ((refine FinK.finB r182 [] ?_ ?_); (· first | with_reducible rfl | (simp [e]; done) | rfl); (· simp [resAL, resA1, loadA, oneOr, e]))
theorem link_rises (l : List Lk) (hn : l.length ≤ 1000000) : Ct Tryz.prog 182 [slL l, .fn 183 [] []] [] (fun _ => bA (risesL l)) [] (fun _ => []) := (link_rises0 l hn).toCt cl cl
theorem fidx_no {α : Type} {p : α → Bool} {l : List α} (h : ∀ x ∈ l, p x = false) : l.findIdx p = l.length := List.findIdx_eq_length.2 h
/-- The first of some links that a function with one thing in mind takes. -/
theorem link_place0 (f : FuncId) (o : AObj) (ok : Lk → Bool) (ho : ∀ ρ, o.ren ρ = o) (hd : o ≠ .dead) (l : List Lk) (hf : ∀ x ∈ l, ∀ i, Ct Tryz.prog f [lkA x, .ref i 0] [(i, o)] (fun _ => bA (ok x)) [] (fun _ => [])) (hn : l.length ≤ 1000000) :
    Does Tryz.prog 186 [slL l, .fn f [] [.ref 0 0]] [o] (iA (l.findIdx ok)) [o] := by
  refine Does.runA Tryz.func186 b186 n186 Tryz.ntmps186 ?_; simp only [c186, go_sem, Nat.reduceAdd, Nat.reduceMul, Int.reduceToNat, Nat.reduceLeDiff, Int.reduceLE, Int.reduceLT, ↓reduceIte, Int.reduceBEq, Int.reduceBNe, Int.reduceAdd, Int.reduceSub, Int.reduceMul, lks_length]; try refine okTr_and rfl ?_
  refine loop_of (α := Nat) (fun k => [slL l, .fn f [] [.ref 0 0], .any, .any, .any, .any, .any, slL l, iA l.length, iA k, .any, .any, .any, .any, .any, .any, .any, .any, .any, .any, .any]) (fun _ => [o]) (fun k => k ≤ l.length ∧ ∀ i (h : i < l.length), i < k → ok l[i] = false) (fun k => l.length - k) 0 ⟨by simp, fun i _ hi => by omega⟩ (Wk.to (by simp) (by simp [leT])) ?_
  rintro k ⟨hk, hall⟩
  (simp only [go_sem, Nat.reduceAdd, Nat.reduceMul, Int.reduceToNat, Nat.reduceLeDiff, Int.reduceLE, Int.reduceLT, ↓reduceIte, Int.reduceBEq, Int.reduceBNe, Int.reduceAdd, Int.reduceSub, Int.reduceMul]; try refine okTr_and rfl ?_)
  by_cases hlt : k < l.length
  · have q1 : decide ((k : Int) < (l.length : Int)) = true := by simp; omega
    have ek := i64_succ k (by omega)
    have g := lks_get l k hlt
    have eg : l.getD k lk0 = l[k] := by simp [hlt]
    have hm := lk_mem l k hlt
    have hfx := hf _ hm 0
    rw [eg] at g hfx
    (simp only [go_sem, Nat.reduceAdd, Nat.reduceMul, Int.reduceToNat, Nat.reduceLeDiff, Int.reduceLE, Int.reduceLT, ↓reduceIte, Int.reduceBEq, Int.reduceBNe, Int.reduceAdd, Int.reduceSub, Int.reduceMul, q1, g, lks_length, Int.toNat_natCast]; try refine okTr_and rfl ?_)
    (repeat ((with_reducible refine And.intro ?_ ?_); (· exact sd)))
    refine CallK.r1 (hfx) rfl ?_
    by_cases hs : ok l[k] = true
    · have e : l.findIdx ok = k := by
        rw [List.findIdx_eq hlt]
        exact ⟨hs, fun j hj => hall j (by omega) hj⟩
      (simp only [go_sem, Nat.reduceAdd, Nat.reduceMul, Int.reduceToNat, Nat.reduceLeDiff, Int.reduceLE, Int.reduceLT, ↓reduceIte, Int.reduceBEq, Int.reduceBNe, Int.reduceAdd, Int.reduceSub, Int.reduceMul, hs]; try refine okTr_and rfl ?_)
      ((refine FinK.finB r186 [0] ?_ ?_); (· first | with_reducible rfl | (simp [e, ho]; done) | rfl); (· simp [resAL, resA1, loadA, oneOr, e, ho]))
    · have hs' : ok l[k] = false := by simpa using hs
      (simp only [go_sem, Nat.reduceAdd, Nat.reduceMul, Int.reduceToNat, Nat.reduceLeDiff, Int.reduceLE, Int.reduceLT, ↓reduceIte, Int.reduceBEq, Int.reduceBNe, Int.reduceAdd, Int.reduceSub, Int.reduceMul, hs', ek]; try refine okTr_and rfl ?_)
      exact ⟨k + 1, ⟨hlt, fun i h hi => by
        rcases Nat.lt_or_ge i k with h1 | h1
        · exact hall i h h1
        · obtain rfl : i = k := by omega
          exact hs'⟩, by omega, Wk.sel [0] (by simp) rfl (by simp) rfl (by simp [ho]) (by simp [selT, ixs_z])⟩
  · have q1 : decide ((k : Int) < (l.length : Int)) = false := by simp; omega
    have e : l.findIdx ok = l.length := fidx_no fun x hx => by
      obtain ⟨i, hi, rfl⟩ := List.getElem_of_mem hx
      exact hall i hi (by omega)
    (simp only [go_sem, Nat.reduceAdd, Nat.reduceMul, Int.reduceToNat, Nat.reduceLeDiff, Int.reduceLE, Int.reduceLT, ↓reduceIte, Int.reduceBEq, Int.reduceBNe, Int.reduceAdd, Int.reduceSub, Int.reduceMul, q1, lks_length]; try refine okTr_and rfl ?_)
    ((refine FinK.finB r186 [0] ?_ ?_); (· first | with_reducible rfl | (simp [e, ho]; done) | rfl); (· simp [resAL, resA1, loadA, oneOr, e, ho]))
theorem link_place (f : FuncId) (o : AObj) (ok : Lk → Bool) (ho : ∀ ρ, o.ren ρ = o) (hd : o ≠ .dead) (l : List Lk) (hf : ∀ x ∈ l, ∀ i, Ct Tryz.prog f [lkA x, .ref i 0] [(i, o)] (fun _ => bA (ok x)) [] (fun _ => [])) (hn : l.length ≤ 1000000) (i : Nat) :
    Ct Tryz.prog 186 [slL l, .fn f [] [.ref i 0]] [(i, o)] (fun _ => iA (l.findIdx ok)) [] (fun _ => []) := Ct.r1 (link_place0 f o ok ho hd l hf hn) i cl ho hd clo
abbrev oneO (x : Int) : AObj := .cells [uA x]
theorem link_Right10 (pos : Int) (x : Lk) (hx : x.ok) (p0 : 0 ≤ pos) (p1 : pos < 18446744073709551616) (hn : x.bk.length ≤ 1000000) : Does Tryz.prog 184 [lkA x, .ref 0 0] [oneO pos] (bA (!goodL pos x)) [oneO pos] := by
  refine Does.runA Tryz.func184 b184 n184 Tryz.ntmps184 ?_; simp only [c184, go_sem, Nat.reduceAdd, Nat.reduceMul, Int.reduceToNat, Nat.reduceLeDiff, Int.reduceLE, Int.reduceLT, ↓reduceIte, Int.reduceBEq, Int.reduceBNe, Int.reduceAdd, Int.reduceSub, Int.reduceMul, ints_length]; try refine okTr_and rfl ?_
  by_cases h4 : x.bk.length ≤ 4
  · have q1 : decide (4 < (x.bk.length : Int)) = false := by simp; omega
    have e : goodL pos x = falls pos x.bk := by unfold goodL; rw [decide_eq_true h4]; simp
    (simp only [go_sem, Nat.reduceAdd, Nat.reduceMul, Int.reduceToNat, Nat.reduceLeDiff, Int.reduceLE, Int.reduceLT, ↓reduceIte, Int.reduceBEq, Int.reduceBNe, Int.reduceAdd, Int.reduceSub, Int.reduceMul, q1]; try refine okTr_and rfl ?_)
    refine CallK.p (delta_Falls pos x.bk p0 p1 hx.b (by omega)) ?_; (simp only [go_sem, Nat.reduceAdd, Nat.reduceMul, Int.reduceToNat, Nat.reduceLeDiff, Int.reduceLE, Int.reduceLT, ↓reduceIte, Int.reduceBEq, Int.reduceBNe, Int.reduceAdd, Int.reduceSub, Int.reduceMul]; try refine okTr_and rfl ?_)
    ((refine FinK.finB r184 [0] ?_ ?_); (· first | with_reducible rfl | (simp [e]; done) | rfl); (· simp [resAL, resA1, loadA, oneOr, e]))
  · have q1 : decide (4 < (x.bk.length : Int)) = true := by simp; omega
    have e : goodL pos x = false := by unfold goodL; rw [decide_eq_false h4]; simp
    (simp only [go_sem, Nat.reduceAdd, Nat.reduceMul, Int.reduceToNat, Nat.reduceLeDiff, Int.reduceLE, Int.reduceLT, ↓reduceIte, Int.reduceBEq, Int.reduceBNe, Int.reduceAdd, Int.reduceSub, Int.reduceMul, q1]; try refine okTr_and rfl ?_)
    ((refine FinK.finB r184 [0] ?_ ?_); (· first | with_reducible rfl | (simp [e]; done) | rfl); (· simp [resAL, resA1, loadA, oneOr, e]))
theorem link_Right1 (pos : Int) (x : Lk) (hx : x.ok) (p0 : 0 ≤ pos) (p1 : pos < 18446744073709551616) (hn : x.bk.length ≤ 1000000) (i : Nat) : Ct Tryz.prog 184 [lkA x, .ref i 0] [(i, oneO pos)] (fun _ => bA (!goodL pos x)) [] (fun _ => []) :=
  Ct.r1 (link_Right10 pos x hx p0 p1 hn) i cl (fun ρ => by simp [ixs_z]) (by simp) clo
def Smalls (l : List Lk) : Prop := l.length ≤ 1000000 ∧ ∀ x ∈ l, x.bk.length ≤ 1000000
theorem link_Right0 (pos : Int) (l : List Lk) (hl : Lks l) (hm : Smalls l) (p0 : 0 ≤ pos) (p1 : pos < 18446744073709551616) : Does Tryz.prog 170 [uA pos, slL l] [] (bA (rightL pos l)) [] := by
  obtain ⟨hn, hb⟩ := hm
  refine Does.runA Tryz.func170 b170 n170 Tryz.ntmps170 ?_; simp only [c170, go_sem, Nat.reduceAdd, Nat.reduceMul, Int.reduceToNat, Nat.reduceLeDiff, Int.reduceLE, Int.reduceLT, ↓reduceIte, Int.reduceBEq, Int.reduceBNe, Int.reduceAdd, Int.reduceSub, Int.reduceMul, lks_length]; try refine okTr_and rfl ?_
  by_cases h16 : l.length ≤ 16
  · have q1 : decide (16 < (l.length : Int)) = false := by simp; omega
    (simp only [go_sem, Nat.reduceAdd, Nat.reduceMul, Int.reduceToNat, Nat.reduceLeDiff, Int.reduceLE, Int.reduceLT, ↓reduceIte, Int.reduceBEq, Int.reduceBNe, Int.reduceAdd, Int.reduceSub, Int.reduceMul, q1]; try refine okTr_and rfl ?_)
    refine CallK.p (link_rises l hn) ?_
    by_cases hr : risesL l = true
    · have he : rightL pos l = ((l.findIdx fun x => !goodL pos x : Nat) == l.length) := by
        rw [Bool.eq_iff_iff, rightL_iff, beq_iff_eq, List.findIdx_eq_length]
        simp [h16, hr]
      have he2 : (((l.findIdx fun x => !goodL pos x : Nat) : Int) == (l.length : Int)) = rightL pos l := by
        rw [he, Bool.eq_iff_iff, beq_iff_eq, beq_iff_eq]; omega
      (simp only [go_sem, Nat.reduceAdd, Nat.reduceMul, Int.reduceToNat, Nat.reduceLeDiff, Int.reduceLE, Int.reduceLT, ↓reduceIte, Int.reduceBEq, Int.reduceBNe, Int.reduceAdd, Int.reduceSub, Int.reduceMul, hr]; try refine okTr_and rfl ?_)
      refine CallK.r1 (link_place 184 (oneO pos) (fun x => !goodL pos x) (fun ρ => by simp [ixs_z]) (by simp) l (fun x hx i => link_Right1 pos x (hl x hx) p0 p1 (hb x hx) i) hn _) rfl ?_; (simp only [go_sem, Nat.reduceAdd, Nat.reduceMul, Int.reduceToNat, Nat.reduceLeDiff, Int.reduceLE, Int.reduceLT, ↓reduceIte, Int.reduceBEq, Int.reduceBNe, Int.reduceAdd, Int.reduceSub, Int.reduceMul, lks_length, he2]; try refine okTr_and rfl ?_)
      exact FinK.finA r170 []
    · have hr' : risesL l = false := by simpa using hr
      have he : rightL pos l = false := by simp [rightL, hr']
      (simp only [go_sem, Nat.reduceAdd, Nat.reduceMul, Int.reduceToNat, Nat.reduceLeDiff, Int.reduceLE, Int.reduceLT, ↓reduceIte, Int.reduceBEq, Int.reduceBNe, Int.reduceAdd, Int.reduceSub, Int.reduceMul, hr']; try refine okTr_and rfl ?_)
      ((refine FinK.finB r170 [] ?_ ?_); (· first | with_reducible rfl | (simp [he]; done) | rfl); (· simp [resAL, resA1, loadA, oneOr, he]))
  · have q1 : decide (16 < (l.length : Int)) = true := by simp; omega
    have he : rightL pos l = false := by simp [rightL, h16]
    (simp only [go_sem, Nat.reduceAdd, Nat.reduceMul, Int.reduceToNat, Nat.reduceLeDiff, Int.reduceLE, Int.reduceLT, ↓reduceIte, Int.reduceBEq, Int.reduceBNe, Int.reduceAdd, Int.reduceSub, Int.reduceMul, q1]; try refine okTr_and rfl ?_)
    ((refine FinK.finB r170 [] ?_ ?_); (· first | with_reducible rfl | (simp [he]; done) | rfl); (· simp [resAL, resA1, loadA, oneOr, he]))
theorem link_Right (pos : Int) (l : List Lk) (hl : Lks l) (hm : Smalls l) (p0 : 0 ≤ pos) (p1 : pos < 18446744073709551616) : Ct Tryz.prog 170 [uA pos, slL l] [] (fun _ => bA (rightL pos l)) [] (fun _ => []) := (link_Right0 pos l hl hm p0 p1).toCt cl cl
/-- By how much a stream is above the one ahead. -/
def stpL (l : List Lk) (i : Nat) : Int := (l.getD i lk0).st - lst (l.take i) - 1
def stpsL (l : List Lk) (k : Nat) : List Int := (List.range k).map (stpL l)
theorem stpsL_succ (l : List Lk) (k : Nat) : stpsL l (k + 1) = stpsL l k ++ [stpL l k] := by simp [stpsL, List.range_succ]
theorem stpsL_len (l : List Lk) (k : Nat) : (stpsL l k).length = k := by simp [stpsL]
theorem stpsL_get (l : List Lk) (n k : Nat) (h : k < n) : (stpsL l n).getD k 0 = stpL l k := by simp [stpsL, h]
theorem stpL_range {l : List Lk} (hl : Lks l) (hr : risesL l = true) {i : Nat} (hi : i < l.length) : 0 ≤ stpL l i ∧ stpL l i < 18446744073709551616 := by
  have ho := hl _ (lk_mem l i hi)
  have h0 := ho.s0
  have h1 := ho.s1
  unfold stpL
  rw [lst_take l i (by omega)]
  split
  · omega
  · rename_i hz
    have := risesL_iff.1 hr i hi (by omega)
    have hp := (hl _ (lk_mem l (i - 1) (by omega))).s0
    omega
set_option maxRecDepth 100000 in
theorem link_steps0 (l : List Lk) (hl : Lks l) (hr : risesL l = true) (hn : l.length ≤ 1000000) : Does Tryz.prog 171 [slL l] [] (slU (stpsL l l.length)) [] := by
  refine Does.runA Tryz.func171 b171 n171 Tryz.ntmps171 ?_; simp only [c171, go_sem, Nat.reduceAdd, Nat.reduceMul, Int.reduceToNat, Nat.reduceLeDiff, Int.reduceLE, Int.reduceLT, ↓reduceIte, Int.reduceBEq, Int.reduceBNe, Int.reduceAdd, Int.reduceSub, Int.reduceMul, lks_length]; try refine okTr_and rfl ?_
  refine loop_of (α := Nat) (fun k => [slL l, .any, .any, .sl (.row 0) 1 (ints .u64 (stpsL l k)), .any, .any, .any, slL l, iA l.length, iA k, .any, .any, .any, .any, .any, .any, .any, .any, .any, .any, .any, .any, .any, .any, .any, .any, .any, .any, .any, .any, .any, .any, .any]) (fun k => [.row 1 k]) (fun k => k ≤ l.length) (fun k => l.length - k) 0 (by simp) ((Wk.row 3 1 rfl (.inl rfl) (by decide)).trans (Wk.to (by simp) (by simp [leT, ints, stpsL]))) ?_
  intro k hk
  have hkl := stpsL_len l k
  (simp only [go_sem, Nat.reduceAdd, Nat.reduceMul, Int.reduceToNat, Nat.reduceLeDiff, Int.reduceLE, Int.reduceLT, ↓reduceIte, Int.reduceBEq, Int.reduceBNe, Int.reduceAdd, Int.reduceSub, Int.reduceMul]; try refine okTr_and rfl ?_)
  by_cases hlt : k < l.length
  · have q1 : decide ((k : Int) < (l.length : Int)) = true := by simp; omega
    have ek := i64_succ k (by omega)
    have g := lks_get l k hlt
    have ho := hl _ (lk_mem l k hlt)
    have hs := stpL_range hl hr hlt
    have hss := stpsL_succ l k
    have est : stpL l k = if k = 0 then (l.getD k lk0).st else (l.getD k lk0).st - (l.getD (k - 1) lk0).st - 1 := by
      unfold stpL
      rw [lst_take l k (by omega)]
      split
      · omega
      · rfl
    by_cases h0 : 0 < k
    · have q2 : decide ((0 : Int) < (k : Int)) = true := by simp; omega
      rw [if_neg (by omega)] at est
      have ep := i64_pred k h0 (by omega)
      have g2 := lks_get l (k - 1) (by omega)
      have hp := hl _ (lk_mem l (k - 1) (by omega))
      have hp0 := hp.s0
      have ho1 := ho.s1
      have w1 : IntKind.u64.wrap ((l.getD (k - 1) lk0).st + 1) = (l.getD (k - 1) lk0).st + 1 := IntWalk.u64_in _ (by omega)
      have w2 : IntKind.u64.wrap ((l.getD k lk0).st - ((l.getD (k - 1) lk0).st + 1)) = stpL l k := by rw [IntWalk.u64_in _ (by omega)]; omega
      (simp only [go_sem, Nat.reduceAdd, Nat.reduceMul, Int.reduceToNat, Nat.reduceLeDiff, Int.reduceLE, Int.reduceLT, ↓reduceIte, Int.reduceBEq, Int.reduceBNe, Int.reduceAdd, Int.reduceSub, Int.reduceMul, q1, q2, g, g2, ep, w1, w2, lks_length, Int.toNat_natCast]; try refine okTr_and rfl ?_)
      (repeat ((with_reducible refine And.intro ?_ ?_); (· exact sd)))
      (simp only [go_sem, Nat.reduceAdd, Nat.reduceMul, Int.reduceToNat, Nat.reduceLeDiff, Int.reduceLE, Int.reduceLT, ↓reduceIte, Int.reduceBEq, Int.reduceBNe, Int.reduceAdd, Int.reduceSub, Int.reduceMul, ints_snoc, ← hss, ints_length, hkl, ek]; try refine okTr_and rfl ?_)
      (repeat ((with_reducible refine And.intro ?_ ?_); (· exact sd)))
      exact ⟨k + 1, by omega, by omega, Wk.sel [0] (by simp) rfl (by simp) rfl (by simp [ixs_z]) (by simp [selT, ixs_z])⟩
    · have q2 : decide ((0 : Int) < (k : Int)) = false := by simp; omega
      rw [if_pos (by omega)] at est
      (simp only [go_sem, Nat.reduceAdd, Nat.reduceMul, Int.reduceToNat, Nat.reduceLeDiff, Int.reduceLE, Int.reduceLT, ↓reduceIte, Int.reduceBEq, Int.reduceBNe, Int.reduceAdd, Int.reduceSub, Int.reduceMul, q1, q2, g, ← est, ints_snoc, ← hss, ints_length, hkl, ek, lks_length, Int.toNat_natCast]; try refine okTr_and rfl ?_)
      (repeat ((with_reducible refine And.intro ?_ ?_); (· exact sd)))
      exact ⟨k + 1, by omega, by omega, Wk.sel [0] (by simp) rfl (by simp) rfl (by simp [ixs_z]) (by simp [selT, ixs_z])⟩
  · have q1 : decide ((k : Int) < (l.length : Int)) = false := by simp; omega
    have ek : k = l.length := by omega
    (simp only [go_sem, Nat.reduceAdd, Nat.reduceMul, Int.reduceToNat, Nat.reduceLeDiff, Int.reduceLE, Int.reduceLT, ↓reduceIte, Int.reduceBEq, Int.reduceBNe, Int.reduceAdd, Int.reduceSub, Int.reduceMul, q1]; try refine okTr_and rfl ?_)
    (refine FinK.untag 2 rfl ?_; simp only [untag1_sl, List.set_cons_zero, List.set_cons_succ])
    ((refine FinK.finB r171 [] ?_ ?_); (· first | with_reducible rfl | (simp [ek]; done) | rfl); (· simp [resAL, resA1, loadA, oneOr, ek]))
theorem link_steps (l : List Lk) (hl : Lks l) (hr : risesL l = true) (hn : l.length ≤ 1000000) : Ct Tryz.prog 171 [slL l] [] (fun _ => slU (stpsL l l.length)) [] (fun _ => []) := (link_steps0 l hl hr hn).toCt cl cl
/-- A writer behind the first k links. -/
def WS.lkN (s : WS) (pos : Int) (l : List Lk) : Nat → WS
  | 0 => s.put (vb l.length)
  | k + 1 => ((s.lkN pos l k).put (vb (stpL l k))).fall pos (l.getD k lk0).bk
def WS.links (s : WS) (pos : Int) (l : List Lk) : WS := if rightL pos l = true then s.lkN pos l l.length else s.fail 3
theorem WS.fine.fall {s : WS} (h : s.fine) (b : Int) (l : List Int) : (s.fall b l).fine := by
  unfold WS.fall
  split
  · exact (h.put _).puts _
  · exact h.fail 3
theorem WS.fine.lkN {s : WS} (h : s.fine) (pos : Int) (l : List Lk) : ∀ k, (s.lkN pos l k).fine := by
  intro k
  induction k with
  | zero => exact h.put _
  | succ k ih => exact (ih.put _).fall _ _
theorem WS.fine.links {s : WS} (h : s.fine) (pos : Int) (l : List Lk) : (s.links pos l).fine := by
  unfold WS.links; split
  · exact h.lkN pos l _
  · exact h.fail 3
theorem put_fit {s : WS} {m : List Int} (h : s.code = 0) (hm : (s.l.length : Int) + m.length ≤ s.most) : s.put m = ⟨s.most, s.l ++ m, 0⟩ := by
  rw [WS.put_ok h hm]; cases s; simp at h; simp [h]
theorem fall_fit {s : WS} {b : Int} {l : List Int} (h : s.code = 0) (hf : falls b l = true) (hm : (s.l.length : Int) + (fallB b l).length ≤ s.most) : s.fall b l = ⟨s.most, s.l ++ fallB b l, 0⟩ := by
  unfold fallB at hm
  rw [List.length_append] at hm
  unfold WS.fall
  rw [if_pos hf, put_fit h (by omega), puts_fit rfl _ (by simp only [List.length_append]; omega)]
  simp [fallB]
theorem encs_take {pos : Int} {l : List Lk} {k : Nat} (h : k < l.length) : encs (linkF pos).enc [] (l.take (k + 1)) = encs (linkF pos).enc [] (l.take k) ++ (vb (stpL l k) ++ fallB pos (l.getD k lk0).bk) := by
  rw [lk_take l k h, encs_snoc]
  rfl
theorem encs_le {pos : Int} {l : List Lk} : ∀ k, k ≤ l.length → (encs (linkF pos).enc [] (l.take k)).length ≤ (encs (linkF pos).enc [] l).length := by
  intro k hk
  have gen : ∀ n, k + n = l.length → (encs (linkF pos).enc [] (l.take k)).length ≤ (encs (linkF pos).enc [] l).length := by
    intro n
    induction n generalizing k with
    | zero => intro h; rw [List.take_of_length_le (by omega)]; exact Nat.le_refl _
    | succ n ih =>
      intro h
      have h1 := ih (k + 1) (by omega) (by omega)
      rw [encs_take (by omega), List.length_append] at h1
      omega
  exact gen (l.length - k) (by omega)
/-- Well-formed links, room enough. -/
theorem lkN_fit {s : WS} {pos : Int} {l : List Lk} (hr : rightL pos l = true) (h : s.code = 0) (hm : (s.l.length : Int) + (linksB pos l).length ≤ s.most) : ∀ k, k ≤ l.length → s.lkN pos l k = ⟨s.most, s.l ++ (vb l.length ++ encs (linkF pos).enc [] (l.take k)), 0⟩ := by
  obtain ⟨r1, r2, r3⟩ := rightL_iff.1 hr
  unfold linksB at hm
  rw [List.length_append] at hm
  intro k
  induction k with
  | zero => intro _; unfold WS.lkN; rw [put_fit h (by omega)]; simp [encs]
  | succ k ih =>
    intro hk
    have hle := encs_le (pos := pos) (l := l) (k + 1) hk
    have he := encs_take (pos := pos) (l := l) (k := k) (by omega)
    have hel := congrArg List.length he
    simp only [List.length_append] at hel
    unfold WS.lkN
    rw [ih (by omega), put_fit rfl (by simp only [List.length_append]; omega), fall_fit rfl (goodL_iff.1 (r3 _ (lk_mem l k (by omega)))).2 (by simp only [List.length_append]; omega), he]
    simp only [List.append_assoc]
theorem links_fit {s : WS} {pos : Int} {l : List Lk} (hr : rightL pos l = true) (h : s.code = 0) (hm : (s.l.length : Int) + (linksB pos l).length ≤ s.most) : s.links pos l = ⟨s.most, s.l ++ linksB pos l, 0⟩ := by
  unfold WS.links
  rw [if_pos hr, lkN_fit hr h hm _ (Nat.le_refl _), List.take_length]; rfl
theorem fallB_len {b : Int} {l : List Int} (h : l.length ≤ 4) : (fallB b l).length ≤ 50 := by
  unfold fallB
  rw [List.length_append]
  have h1 := (vb_len (l.length : Int)).2
  have h2 := vbs_len (dsts b l l.length)
  rw [dsts_len] at h2
  omega
theorem linksB_len {pos : Int} {l : List Lk} (hr : rightL pos l = true) : (linksB pos l).length ≤ 970 := by
  obtain ⟨r1, r2, r3⟩ := rightL_iff.1 hr
  have hv := (vb_len (l.length : Int)).2
  have key : ∀ k, k ≤ l.length → (encs (linkF pos).enc [] (l.take k)).length ≤ 60 * k := by
    intro k
    induction k with
    | zero => intro _; simp [encs]
    | succ k ih =>
      intro hk
      have h1 := ih (by omega)
      rw [encs_take (by omega), List.length_append, List.length_append]
      have h2 := (vb_len (stpL l k)).2
      have h3 := fallB_len (b := pos) (goodL_iff.1 (r3 _ (lk_mem l k (by omega)))).1
      omega
  have := key l.length (Nat.le_refl _)
  rw [List.take_length] at this
  unfold linksB
  rw [List.length_append]; omega
set_option maxRecDepth 100000 in
theorem link_Put0 (s : WS) (pos : Int) (l : List Lk) (hs : s.fine) (hl : Lks l) (hm : Smalls l) (p0 : 0 ≤ pos) (p1 : pos < 18446744073709551616) : Does Tryz.prog 138 [.ref 0 0, uA pos, slL l] [wob 1 s, wrow s] (.tup []) [wob 1 (s.links pos l), wrow (s.links pos l)] := by
  have hn := hm.1
  have e := len_u64 l (by omega)
  refine Does.runA Tryz.func138 b138 n138 Tryz.ntmps138 ?_; simp only [c138, go_sem, Nat.reduceAdd, Nat.reduceMul, Int.reduceToNat, Nat.reduceLeDiff, Int.reduceLE, Int.reduceLT, ↓reduceIte, Int.reduceBEq, Int.reduceBNe, Int.reduceAdd, Int.reduceSub, Int.reduceMul]; try refine okTr_and rfl ?_
  refine CallK.p (link_Right pos l hl hm p0 p1) ?_
  by_cases hr : rightL pos l = true
  · obtain ⟨r1, r2, r3⟩ := rightL_iff.1 hr
    (simp only [go_sem, Nat.reduceAdd, Nat.reduceMul, Int.reduceToNat, Nat.reduceLeDiff, Int.reduceLE, Int.reduceLT, ↓reduceIte, Int.reduceBEq, Int.reduceBNe, Int.reduceAdd, Int.reduceSub, Int.reduceMul, hr, lks_length, e]; try refine okTr_and rfl ?_)
    refine CallK.u2 (varint_Put s l.length 0 1 (by decide) (by omega) (by omega) hs.ok (hs.room _)) rfl rfl ?_; (simp only [go_sem, Nat.reduceAdd, Nat.reduceMul, Int.reduceToNat, Nat.reduceLeDiff, Int.reduceLE, Int.reduceLT, ↓reduceIte, Int.reduceBEq, Int.reduceBNe, Int.reduceAdd, Int.reduceSub, Int.reduceMul]; try refine okTr_and rfl ?_)
    refine CallK.p (link_steps l hl r2 hn) ?_; (simp only [go_sem, Nat.reduceAdd, Nat.reduceMul, Int.reduceToNat, Nat.reduceLeDiff, Int.reduceLE, Int.reduceLT, ↓reduceIte, Int.reduceBEq, Int.reduceBNe, Int.reduceAdd, Int.reduceSub, Int.reduceMul, ints_length, stpsL_len]; try refine okTr_and rfl ?_)
    refine loop_of (α := Nat) (fun k => [.ref 0 0, uA pos, slL l, .any, .any, .any, .any, .any, .any, .any, .any, .any, .any, .any, .any, .any, .any, .any, .any, .any, slU (stpsL l l.length), iA l.length, iA k, .any, .any, .any, .any, .any, .any, .any, .any, .any, .any, .any, .any, .any, .any, .any, .any]) (fun k => [wob 1 (s.lkN pos l k), wrow (s.lkN pos l k)]) (fun k => k ≤ l.length) (fun k => l.length - k) 0 (by simp) (Wk.to (by rfl) (by simp [leT])) ?_
    intro k hk
    have hf := hs.lkN pos l k
    (simp only [go_sem, Nat.reduceAdd, Nat.reduceMul, Int.reduceToNat, Nat.reduceLeDiff, Int.reduceLE, Int.reduceLT, ↓reduceIte, Int.reduceBEq, Int.reduceBNe, Int.reduceAdd, Int.reduceSub, Int.reduceMul]; try refine okTr_and rfl ?_)
    by_cases hlt : k < l.length
    · have q1 : decide ((k : Int) < (l.length : Int)) = true := by simp; omega
      have ek := i64_succ k (by omega)
      have g := lks_get l k hlt
      have g2 := u64_get (stpsL l l.length) k (by rw [stpsL_len]; exact hlt)
      rw [stpsL_get l _ k hlt, Int.toNat_natCast] at g2
      have hx := stpL_range hl r2 hlt
      have ho := hl _ (lk_mem l k hlt)
      have hsm := hm.2 _ (lk_mem l k hlt)
      (simp only [go_sem, Nat.reduceAdd, Nat.reduceMul, Int.reduceToNat, Nat.reduceLeDiff, Int.reduceLE, Int.reduceLT, ↓reduceIte, Int.reduceBEq, Int.reduceBNe, Int.reduceAdd, Int.reduceSub, Int.reduceMul, q1, g2, ints_length, stpsL_len, Int.toNat_natCast]; try refine okTr_and rfl ?_)
      (repeat ((with_reducible refine And.intro ?_ ?_); (· exact sd)))
      refine CallK.u2 (varint_Put (s.lkN pos l k) (stpL l k) 0 1 (by decide) hx.1 hx.2 hf.ok (hf.room _)) rfl rfl ?_; (simp only [go_sem, Nat.reduceAdd, Nat.reduceMul, Int.reduceToNat, Nat.reduceLeDiff, Int.reduceLE, Int.reduceLT, ↓reduceIte, Int.reduceBEq, Int.reduceBNe, Int.reduceAdd, Int.reduceSub, Int.reduceMul, g, lks_length, Int.toNat_natCast]; try refine okTr_and rfl ?_)
      (repeat ((with_reducible refine And.intro ?_ ?_); (· exact sd)))
      refine CallK.u2 (delta_Put ((s.lkN pos l k).put (vb (stpL l k))) pos (l.getD k lk0).bk 0 1 (by decide) (hf.put _) p0 p1 ho.b (by omega)) rfl rfl ?_; (simp only [go_sem, Nat.reduceAdd, Nat.reduceMul, Int.reduceToNat, Nat.reduceLeDiff, Int.reduceLE, Int.reduceLT, ↓reduceIte, Int.reduceBEq, Int.reduceBNe, Int.reduceAdd, Int.reduceSub, Int.reduceMul, ek]; try refine okTr_and rfl ?_)
      exact ⟨k + 1, by omega, by omega, Wk.to (by rfl) (by simp [leT])⟩
    · have q1 : decide ((k : Int) < (l.length : Int)) = false := by simp; omega
      have ek : k = l.length := by omega
      subst ek
      (simp only [go_sem, Nat.reduceAdd, Nat.reduceMul, Int.reduceToNat, Nat.reduceLeDiff, Int.reduceLE, Int.reduceLT, ↓reduceIte, Int.reduceBEq, Int.reduceBNe, Int.reduceAdd, Int.reduceSub, Int.reduceMul, q1]; try refine okTr_and rfl ?_)
      ((refine FinK.finB r138 [0, 1] ?_ ?_); (· first | with_reducible rfl | (simp [WS.links, hr]; done) | rfl); (· simp [resAL, resA1, loadA, oneOr, WS.links, hr]))
  · have hr' : rightL pos l = false := by simpa using hr
    (simp only [go_sem, Nat.reduceAdd, Nat.reduceMul, Int.reduceToNat, Nat.reduceLeDiff, Int.reduceLE, Int.reduceLT, ↓reduceIte, Int.reduceBEq, Int.reduceBNe, Int.reduceAdd, Int.reduceSub, Int.reduceMul, hr']; try refine okTr_and rfl ?_)
    refine CallK.u2 (Writer_Fail s 3 0 1 (by decide)) rfl rfl ?_; (simp only [go_sem, Nat.reduceAdd, Nat.reduceMul, Int.reduceToNat, Nat.reduceLeDiff, Int.reduceLE, Int.reduceLT, ↓reduceIte, Int.reduceBEq, Int.reduceBNe, Int.reduceAdd, Int.reduceSub, Int.reduceMul]; try refine okTr_and rfl ?_)
    ((refine FinK.finB r138 [0, 1] ?_ ?_); (· first | with_reducible rfl | (simp [WS.links, hr']; done) | rfl); (· simp [resAL, resA1, loadA, oneOr, WS.links, hr']))
theorem link_Put (s : WS) (pos : Int) (l : List Lk) (i j : Nat) (h : i ≠ j) (hs : s.fine) (hl : Lks l) (hm : Smalls l) (p0 : 0 ≤ pos) (p1 : pos < 18446744073709551616) : Ct Tryz.prog 138 [.ref i 0, uA pos, slL l] [(i, wob j s), (j, wrow s)] (fun _ => .tup []) [(i, wob j (s.links pos l)), (j, wrow (s.links pos l))] (fun _ => []) := Ct.u2 (link_Put0 s pos l hs hl hm p0 p1) i j h cl cl cl cl cl (wob_dead _ _) (wrow_dead _) clo
def sizeL (pos : Int) (l : List Lk) : Int := if rightL pos l = true then (linksB pos l).length else 0
set_option maxRecDepth 100000 in
theorem link_Size0 (pos : Int) (l : List Lk) (hl : Lks l) (hm : Smalls l) (p0 : 0 ≤ pos) (p1 : pos < 18446744073709551616) : Does Tryz.prog 168 [uA pos, slL l] [] (iA (sizeL pos l)) [] := by
  have hn := hm.1
  have e := len_u64 l (by omega)
  refine Does.runA Tryz.func168 b168 n168 Tryz.ntmps168 ?_; simp only [c168, go_sem, Nat.reduceAdd, Nat.reduceMul, Int.reduceToNat, Nat.reduceLeDiff, Int.reduceLE, Int.reduceLT, ↓reduceIte, Int.reduceBEq, Int.reduceBNe, Int.reduceAdd, Int.reduceSub, Int.reduceMul]; try refine okTr_and rfl ?_
  refine CallK.p (link_Right pos l hl hm p0 p1) ?_
  by_cases hr : rightL pos l = true
  · obtain ⟨r1, r2, r3⟩ := rightL_iff.1 hr
    have hbl := linksB_len hr
    unfold linksB at hbl
    rw [List.length_append] at hbl
    (simp only [go_sem, Nat.reduceAdd, Nat.reduceMul, Int.reduceToNat, Nat.reduceLeDiff, Int.reduceLE, Int.reduceLT, ↓reduceIte, Int.reduceBEq, Int.reduceBNe, Int.reduceAdd, Int.reduceSub, Int.reduceMul, hr, lks_length, e]; try refine okTr_and rfl ?_)
    refine CallK.p (varint_Size l.length (by omega) (by omega)) ?_; (simp only [go_sem, Nat.reduceAdd, Nat.reduceMul, Int.reduceToNat, Nat.reduceLeDiff, Int.reduceLE, Int.reduceLT, ↓reduceIte, Int.reduceBEq, Int.reduceBNe, Int.reduceAdd, Int.reduceSub, Int.reduceMul]; try refine okTr_and rfl ?_)
    refine CallK.p (link_steps l hl r2 hn) ?_; (simp only [go_sem, Nat.reduceAdd, Nat.reduceMul, Int.reduceToNat, Nat.reduceLeDiff, Int.reduceLE, Int.reduceLT, ↓reduceIte, Int.reduceBEq, Int.reduceBNe, Int.reduceAdd, Int.reduceSub, Int.reduceMul, ints_length, stpsL_len]; try refine okTr_and rfl ?_)
    refine loop_of (α := Nat) (fun k => [uA pos, slL l, .any, .any, .any, iA ((vb l.length ++ encs (linkF pos).enc [] (l.take k)).length : Nat), .any, .any, .any, .any, .any, .any, .any, .any, .any, .any, .any, slU (stpsL l l.length), iA l.length, iA k, .any, .any, .any, .any, .any, .any, .any, .any, .any, .any, .any, .any, .any, .any, .any, .any, .any, .any]) (fun _ => []) (fun k => k ≤ l.length) (fun k => l.length - k) 0 (by simp) (Wk.to (by simp) (by simp [leT, encs])) ?_
    intro k hk
    (simp only [go_sem, Nat.reduceAdd, Nat.reduceMul, Int.reduceToNat, Nat.reduceLeDiff, Int.reduceLE, Int.reduceLT, ↓reduceIte, Int.reduceBEq, Int.reduceBNe, Int.reduceAdd, Int.reduceSub, Int.reduceMul]; try refine okTr_and rfl ?_)
    by_cases hlt : k < l.length
    · have q1 : decide ((k : Int) < (l.length : Int)) = true := by simp; omega
      have ek := i64_succ k (by omega)
      have g := lks_get l k hlt
      have g2 := u64_get (stpsL l l.length) k (by rw [stpsL_len]; exact hlt)
      rw [stpsL_get l _ k hlt, Int.toNat_natCast] at g2
      have hx := stpL_range hl r2 hlt
      have ho := hl _ (lk_mem l k hlt)
      have hsm := hm.2 _ (lk_mem l k hlt)
      obtain ⟨gg1, gg2⟩ := goodL_iff.1 (r3 _ (lk_mem l k hlt))
      have he := encs_take (pos := pos) (l := l) (k := k) hlt
      have hel := congrArg List.length he
      simp only [List.length_append] at hel
      have hle := encs_le (pos := pos) (l := l) (k + 1) hlt
      have hv := vb_len (stpL l k)
      have w1 : IntKind.i64.wrap (((vb (stpL l k)).length : Int) + (fallB pos (l.getD k lk0).bk).length) = (vb (stpL l k)).length + (fallB pos (l.getD k lk0).bk).length := IntWalk.i64_in _ (by omega)
      have w2 : IntKind.i64.wrap (((vb (l.length : Int) ++ encs (linkF pos).enc [] (l.take k)).length : Int) + (((vb (stpL l k)).length : Int) + (fallB pos (l.getD k lk0).bk).length)) = ((vb (l.length : Int) ++ encs (linkF pos).enc [] (l.take (k + 1))).length : Nat) := by
        rw [List.length_append, List.length_append, hel, IntWalk.i64_in _ (by omega)]; omega
      (simp only [go_sem, Nat.reduceAdd, Nat.reduceMul, Int.reduceToNat, Nat.reduceLeDiff, Int.reduceLE, Int.reduceLT, ↓reduceIte, Int.reduceBEq, Int.reduceBNe, Int.reduceAdd, Int.reduceSub, Int.reduceMul, q1, g2, ints_length, stpsL_len, Int.toNat_natCast]; try refine okTr_and rfl ?_)
      (repeat ((with_reducible refine And.intro ?_ ?_); (· exact sd)))
      refine CallK.p (varint_Size (stpL l k) hx.1 hx.2) ?_; (simp only [go_sem, Nat.reduceAdd, Nat.reduceMul, Int.reduceToNat, Nat.reduceLeDiff, Int.reduceLE, Int.reduceLT, ↓reduceIte, Int.reduceBEq, Int.reduceBNe, Int.reduceAdd, Int.reduceSub, Int.reduceMul, g, lks_length, Int.toNat_natCast]; try refine okTr_and rfl ?_)
      (repeat ((with_reducible refine And.intro ?_ ?_); (· exact sd)))
      refine CallK.p (delta_Size pos (l.getD k lk0).bk p0 p1 ho.b (by omega)) ?_; (simp only [go_sem, Nat.reduceAdd, Nat.reduceMul, Int.reduceToNat, Nat.reduceLeDiff, Int.reduceLE, Int.reduceLT, ↓reduceIte, Int.reduceBEq, Int.reduceBNe, Int.reduceAdd, Int.reduceSub, Int.reduceMul, gg2, w1, w2, ek]; try refine okTr_and rfl ?_)
      (repeat ((with_reducible refine And.intro ?_ ?_); (· exact sd)))
      exact ⟨k + 1, by omega, by omega, Wk.to (by rfl) (by simp [leT])⟩
    · have q1 : decide ((k : Int) < (l.length : Int)) = false := by simp; omega
      have ek : k = l.length := by omega
      subst ek
      have he : sizeL pos l = ((vb (l.length : Int) ++ encs (linkF pos).enc [] (l.take l.length)).length : Nat) := by unfold sizeL linksB; rw [if_pos hr, List.take_length]
      (simp only [go_sem, Nat.reduceAdd, Nat.reduceMul, Int.reduceToNat, Nat.reduceLeDiff, Int.reduceLE, Int.reduceLT, ↓reduceIte, Int.reduceBEq, Int.reduceBNe, Int.reduceAdd, Int.reduceSub, Int.reduceMul, q1]; try refine okTr_and rfl ?_)
      ((refine FinK.finB r168 [] ?_ ?_); (· first | with_reducible rfl | (simp [he]; done) | rfl); (· simp [resAL, resA1, loadA, oneOr, he]))
  · have hr' : rightL pos l = false := by simpa using hr
    have he : sizeL pos l = 0 := by unfold sizeL; rw [if_neg hr]
    (simp only [go_sem, Nat.reduceAdd, Nat.reduceMul, Int.reduceToNat, Nat.reduceLeDiff, Int.reduceLE, Int.reduceLT, ↓reduceIte, Int.reduceBEq, Int.reduceBNe, Int.reduceAdd, Int.reduceSub, Int.reduceMul, hr']; try refine okTr_and rfl ?_)
    ((refine FinK.finB r168 [] ?_ ?_); (· first | with_reducible rfl | (simp [he]; done) | rfl); (· simp [resAL, resA1, loadA, oneOr, he]))
theorem link_Size (pos : Int) (l : List Lk) (hl : Lks l) (hm : Smalls l) (p0 : 0 ≤ pos) (p1 : pos < 18446744073709551616) : Ct Tryz.prog 168 [uA pos, slL l] [] (fun _ => iA (sizeL pos l)) [] (fun _ => []) := (link_Size0 pos l hl hm p0 p1).toCt cl cl
end Go.Proofs.YtnfagphepkeedaaGreat
end
section
namespace Go.Proofs.YtnfagphepkeedaaGreat
open Go.RowKit

theorem xor_max {x : Int} (h0 : 0 ≤ x) (h1 : x < 18446744073709551616) : bitsI .xor .u64 (if IntKind.u64.signed then -1 else IntKind.u64.max) x = 18446744073709551615 - x := by
  have h := xor_u64_1 h0 h1
  have e : bitsI .xor .u64 (if IntKind.u64.signed then -1 else IntKind.u64.max) x = bitsI .xor .u64 x 18446744073709551615 := by
    show IntKind.u64.wrap ((BitVec.ofInt 64 18446744073709551615 ^^^ BitVec.ofInt 64 x).toNat : Int) = IntKind.u64.wrap ((BitVec.ofInt 64 x ^^^ BitVec.ofInt 64 18446744073709551615).toNat : Int)
    rw [BitVec.xor_comm]
  rw [e, h]
theorem lkHead_nil {s : RS} (h : ROk s) : s.lkHead [] = s.vint.1 := by
  have hv := vint_range (s := s) h.bys
  unfold RS.lkHead; rw [lst_nil, if_neg (by omega)]
theorem lkHead_keep {s : RS} (h : ROk s) (acc : List Lk) : ROk (s.lkHead acc) ∧ (s.lkHead acc).l = s.l := by
  obtain ⟨a, b⟩ := h.vint
  unfold RS.lkHead; split
  · exact ⟨a.fail _ _, by rw [fail_l]; exact b⟩
  · exact ⟨a, b⟩
theorem lkHead_over {s : RS} {acc : List Lk} (h : 18446744073709551616 ≤ lst acc + 1 + s.vint.2) : s.vint.1.fail 13 s.at_ = s.lkHead acc := by
  unfold RS.lkHead
  by_cases hc : s.vint.1.code = 0
  · rw [if_pos ⟨hc, h⟩]
  · rw [if_neg fun x => hc x.1]; unfold RS.fail; rw [if_neg hc]
theorem lkHead_fits {s : RS} {acc : List Lk} (h : ¬ 18446744073709551616 ≤ lst acc + 1 + s.vint.2) : s.lkHead acc = s.vint.1 := by
  unfold RS.lkHead; rw [if_neg fun x => h x.2]
theorem linkF_f (pos : Int) (s : RS) (acc : List Lk) : (linkF pos).f s acc = (((s.lkHead acc).fall pos 4).1, ⟨lst acc + 1 + s.vint.2, ((s.lkHead acc).fall pos 4).2⟩) := rfl
theorem fall_code {s : RS} {b m : Int} (h : ROk s) (b0 : 0 ≤ b) (b1 : b < 18446744073709551616) (hc : (s.fall b m).1.code = 0) : s.code = 0 := (fall_is h b0 b1 hc).1
set_option maxHeartbeats 1000000 in
set_option maxRecDepth 100000 in
theorem link_Read0 (s : RS) (pos : Int) (p0 : 0 ≤ pos) (p1 : pos < 18446744073709551616) (hs : ROk s) (hn : s.l.length * 32 ≤ 100000000000000) : Does Tryz.prog 123 [.ref 0 0, uA pos] [rdr s] (slL (s.links pos).2) [rdr ((s.links pos).1)] := by
  have hF := linkF_ok p0 p1
  have hir := int_range (s := s) (m := 16) hs.bys
  obtain ⟨hi1, hi2⟩ := hs.int 16
  unfold RS.links Fmt.counted
  refine Does.runA Tryz.func123 b123 n123 Tryz.ntmps123 ?_; simp only [c123, go_sem, Nat.reduceAdd, Nat.reduceMul, Int.reduceToNat, Nat.reduceLeDiff, Int.reduceLE, Int.reduceLT, ↓reduceIte, Int.reduceBEq, Int.reduceBNe, Int.reduceAdd, Int.reduceSub, Int.reduceMul]; try refine okTr_and rfl ?_
  refine CallK.u1 (varint_ReadInt s 16 0 (by decide) hs.ok hs.bys) rfl ?_
  generalize hu : (s.int 16).1 = u at *
  generalize (s.int 16).2 = z at *
  obtain ⟨N, hN⟩ : ∃ N, z.toNat = N := ⟨_, rfl⟩
  have hz : z = (N : Int) := by omega
  subst hz
  rw [Int.toNat_natCast]
  (simp only [go_sem, Nat.reduceAdd, Nat.reduceMul, Int.reduceToNat, Nat.reduceLeDiff, Int.reduceLE, Int.reduceLT, ↓reduceIte, Int.reduceBEq, Int.reduceBNe, Int.reduceAdd, Int.reduceSub, Int.reduceMul]; try refine okTr_and rfl ?_)
  refine loop_of (α := RS × List Lk) (fun a => [.ref 0 0, uA pos, .any, .any, .any, .sl (.row 1) 2 (lks a.2), .any, .any, .any, .any, .any, iA N, iA a.2.length, .any, .any, .any, .any, .any, .any, .any, .any, .any, .any, .any, .any, .any, .any, .any, .any, .any, .any, .any, .any, .any, .any, .any, .any, .any, .any, .any, .any, .any, .any, .any, .any, .any, .any, .any, .any, .any, .any, .any, .any, .any, .any]) (fun a => [rdr a.1, .row 2 a.2.length]) ((linkF pos).On u N) (fun a => N - a.2.length) (u, []) (Fmt.On.start hi1 N) ((Wk.row 5 2 rfl (.inr rfl) (by decide)).trans (Wk.to (by simp) (by simp [leT, lks]))) ?_
  rintro ⟨t, acc⟩ ho
  have hla := ho.len
  rw [hi2] at hla
  have h1 := ho.ok
  have h2 := ho.l
  have h6 := ho.res
  have hwf := ho.wf
  simp only at h1 h2 h6 hwf
  have hg := lst_ge hwf
  have htl : t.l.length * 32 ≤ 100000000000000 := by rw [h2, hi2]; exact hn
  (simp only [go_sem, Nat.reduceAdd, Nat.reduceMul, Int.reduceToNat, Nat.reduceLeDiff, Int.reduceLE, Int.reduceLT, ↓reduceIte, Int.reduceBEq, Int.reduceBNe, Int.reduceAdd, Int.reduceSub, Int.reduceMul]; try refine okTr_and rfl ?_)
  by_cases hlt : acc.length < N
  · have q0 : decide ((acc.length : Int) < (N : Int)) = true := by simp; omega
    have ei := i64_succ acc.length (by omega)
    have hx := vint_range (s := t) h1.bys
    obtain ⟨hk1, hk2⟩ := lkHead_keep h1 acc
    obtain ⟨hv1, hv2⟩ := h1.vint
    have hff := linkF_f pos t acc
    have hkl : (t.lkHead acc).l.length * 8 ≤ 140737488355328 := by rw [hk2]; omega
    have hnx : ((t.lkHead acc).fall pos 4).1.code = 0 → (linkF pos).On u N (((t.lkHead acc).fall pos 4).1, acc ++ [⟨lst acc + 1 + t.vint.2, ((t.lkHead acc).fall pos 4).2⟩]) := fun hc => by
      have := ho.next hF hlt (by rw [hff]; exact hc)
      rw [hff] at this; exact this
    have hnb : ¬ ((t.lkHead acc).fall pos 4).1.code = 0 → (linkF pos).many N u [] = (((t.lkHead acc).fall pos 4).1, []) := fun hc => by
      have := many_bad (F := linkF pos) (s := t) hlt (by rw [hff]; exact hc)
      rw [h6, hff] at this; exact this
    have hst : ((t.lkHead acc).fall pos 4).1.code = 0 → lst acc + 1 + t.vint.2 < 18446744073709551616 := fun hc => by
      rcases Int.lt_or_le (lst acc + 1 + t.vint.2) 18446744073709551616 with h | h
      · exact h
      · have hh := fall_code hk1 p0 p1 hc
        unfold RS.lkHead at hh
        by_cases hc0 : t.vint.1.code = 0
        · rw [if_pos ⟨hc0, h⟩] at hh; exact absurd hh (fail_not0 _ _ hc0 (by decide))
        · rw [if_neg fun x => hc0 x.1] at hh; exact absurd hh hc0
    (simp only [go_sem, Nat.reduceAdd, Nat.reduceMul, Int.reduceToNat, Nat.reduceLeDiff, Int.reduceLE, Int.reduceLT, ↓reduceIte, Int.reduceBEq, Int.reduceBNe, Int.reduceAdd, Int.reduceSub, Int.reduceMul, q0]; try refine okTr_and rfl ?_)
    refine CallK.r1 (Reader_At t 0) rfl ?_; (simp only [go_sem, Nat.reduceAdd, Nat.reduceMul, Int.reduceToNat, Nat.reduceLeDiff, Int.reduceLE, Int.reduceLT, ↓reduceIte, Int.reduceBEq, Int.reduceBNe, Int.reduceAdd, Int.reduceSub, Int.reduceMul]; try refine okTr_and rfl ?_)
    refine CallK.u1 (varint_Read t 0 h1.ok h1.bys) rfl ?_; (simp only [go_sem, Nat.reduceAdd, Nat.reduceMul, Int.reduceToNat, Nat.reduceLeDiff, Int.reduceLE, Int.reduceLT, ↓reduceIte, Int.reduceBEq, Int.reduceBNe, Int.reduceAdd, Int.reduceSub, Int.reduceMul]; try refine okTr_and rfl ?_)
    by_cases h0 : 0 < acc.length
    · have q1 : decide ((0 : Int) < (acc.length : Int)) = true := by simp; omega
      have ep := i64_pred acc.length h0 (by omega)
      have g := lks_get acc (acc.length - 1) (by omega)
      have hlg := lst_get acc h0
      obtain ⟨w, hw⟩ : ∃ w, (acc.getD (acc.length - 1) lk0).st = w := ⟨_, rfl⟩
      rw [hw] at hlg
      have g' : (lks acc).getD (acc.length - 1) .any = .agg [uA w, slU (acc.getD (acc.length - 1) lk0).bk] := by rw [g, ← hw]
      have hw0 : 0 ≤ w ∧ w < 18446744073709551616 := by
        have hlw := wf_get (acc.length - 1) (by omega) hwf
        rw [List.nil_append] at hlw
        have hg2 := lst_ge (wf_take (acc.length - 1) hwf)
        have e : acc[acc.length - 1] = acc.getD (acc.length - 1) lk0 := by simp [show acc.length - 1 < acc.length by omega]
        have hl1 : lst (acc.take (acc.length - 1)) < acc[acc.length - 1].st := hlw.1
        have hl2 : acc[acc.length - 1].st < 18446744073709551616 := hlw.2.1
        rw [e, hw] at hl1 hl2
        exact ⟨by have := hg2.1; omega, hl2⟩
      have ex := xor_max hw0.1 hw0.2
      by_cases hov : 18446744073709551615 - w ≤ t.vint.2
      · have q2 : decide (18446744073709551615 - w ≤ t.vint.2) = true := by simpa using hov
        have hhe := lkHead_over (s := t) (acc := acc) (by omega)
        (simp only [go_sem, Nat.reduceAdd, Nat.reduceMul, Int.reduceToNat, Nat.reduceLeDiff, Int.reduceLE, Int.reduceLT, ↓reduceIte, Int.reduceBEq, Int.reduceBNe, Int.reduceAdd, Int.reduceSub, Int.reduceMul, q1, ep, g', lks_length, Int.toNat_natCast, ex, q2]; try refine okTr_and rfl ?_)
        (repeat ((with_reducible refine And.intro ?_ ?_); (· exact sd)))
        refine CallK.u1 (Reader_Fail t.vint.1 13 t.at_ 0) rfl ?_; (simp only [go_sem, Nat.reduceAdd, Nat.reduceMul, Int.reduceToNat, Nat.reduceLeDiff, Int.reduceLE, Int.reduceLT, ↓reduceIte, Int.reduceBEq, Int.reduceBNe, Int.reduceAdd, Int.reduceSub, Int.reduceMul, hhe]; try refine okTr_and rfl ?_)
        refine CallK.u1 (delta_Read (t.lkHead acc) pos 4 0 p0 p1 (by decide) hk1 hkl) rfl ?_; (simp only [go_sem, Nat.reduceAdd, Nat.reduceMul, Int.reduceToNat, Nat.reduceLeDiff, Int.reduceLE, Int.reduceLT, ↓reduceIte, Int.reduceBEq, Int.reduceBNe, Int.reduceAdd, Int.reduceSub, Int.reduceMul]; try refine okTr_and rfl ?_)
        have hbad : ¬ ((t.lkHead acc).fall pos 4).1.code = 0 := fun hc => by have := hst hc; omega
        have hb := hnb hbad
        refine CallK.r1 (Reader_Good ((t.lkHead acc).fall pos 4).1 0) rfl ?_; (simp only [go_sem, Nat.reduceAdd, Nat.reduceMul, Int.reduceToNat, Nat.reduceLeDiff, Int.reduceLE, Int.reduceLT, ↓reduceIte, Int.reduceBEq, Int.reduceBNe, Int.reduceAdd, Int.reduceSub, Int.reduceMul, good_false hbad]; try refine okTr_and rfl ?_)
        (refine FinK.nilk 4 2 rfl ?_; simp only [List.set_cons_zero, List.set_cons_succ])
        ((refine FinK.finB r123 [0] ?_ ?_); (· first | with_reducible rfl | (simp [hb, lks_nil]; done) | rfl); (· simp [resAL, resA1, loadA, oneOr, hb, lks_nil]))
      · have q2 : decide (18446744073709551615 - w ≤ t.vint.2) = false := by simpa using hov
        have hhe := lkHead_fits (s := t) (acc := acc) (by omega)
        have e1 : IntKind.u64.wrap (w + 1) = w + 1 := IntWalk.u64_in _ (by omega)
        have e2 : IntKind.u64.wrap (t.vint.2 + (w + 1)) = lst acc + 1 + t.vint.2 := by rw [IntWalk.u64_in _ (by omega)]; omega
        rw [hhe] at hnx hnb hkl
        (simp only [go_sem, Nat.reduceAdd, Nat.reduceMul, Int.reduceToNat, Nat.reduceLeDiff, Int.reduceLE, Int.reduceLT, ↓reduceIte, Int.reduceBEq, Int.reduceBNe, Int.reduceAdd, Int.reduceSub, Int.reduceMul, q1, ep, g', lks_length, Int.toNat_natCast, ex, q2, e1, e2]; try refine okTr_and rfl ?_)
        (repeat ((with_reducible refine And.intro ?_ ?_); (· exact sd)))
        refine CallK.u1 (delta_Read t.vint.1 pos 4 0 p0 p1 (by decide) hv1 hkl) rfl ?_; (simp only [go_sem, Nat.reduceAdd, Nat.reduceMul, Int.reduceToNat, Nat.reduceLeDiff, Int.reduceLE, Int.reduceLT, ↓reduceIte, Int.reduceBEq, Int.reduceBNe, Int.reduceAdd, Int.reduceSub, Int.reduceMul]; try refine okTr_and rfl ?_)
        by_cases hc : (t.vint.1.fall pos 4).1.code = 0
        · have hon := hnx hc
          have hl2 := hon.len
          rw [List.length_append, List.length_singleton, hi2] at hl2
          refine CallK.r1 (Reader_Good (t.vint.1.fall pos 4).1 0) rfl ?_; (simp only [go_sem, Nat.reduceAdd, Nat.reduceMul, Int.reduceToNat, Nat.reduceLeDiff, Int.reduceLE, Int.reduceLT, ↓reduceIte, Int.reduceBEq, Int.reduceBNe, Int.reduceAdd, Int.reduceSub, Int.reduceMul, good_true hc, lks_snoc, lks_length, ei]; try refine okTr_and rfl ?_)
          (repeat ((with_reducible refine And.intro ?_ ?_); (· exact sd)))
          exact ⟨((t.vint.1.fall pos 4).1, acc ++ [⟨lst acc + 1 + t.vint.2, (t.vint.1.fall pos 4).2⟩]), hon, by simp; omega, Wk.sel [0, 1] (by simp) rfl (by simp) rfl (by simp [ixs_z, rdr_ren]) (by simp [selT, ixs_z, lks, ixs])⟩
        · have hb := hnb hc
          refine CallK.r1 (Reader_Good (t.vint.1.fall pos 4).1 0) rfl ?_; (simp only [go_sem, Nat.reduceAdd, Nat.reduceMul, Int.reduceToNat, Nat.reduceLeDiff, Int.reduceLE, Int.reduceLT, ↓reduceIte, Int.reduceBEq, Int.reduceBNe, Int.reduceAdd, Int.reduceSub, Int.reduceMul, good_false hc]; try refine okTr_and rfl ?_)
          (refine FinK.nilk 4 2 rfl ?_; simp only [List.set_cons_zero, List.set_cons_succ])
          ((refine FinK.finB r123 [0] ?_ ?_); (· first | with_reducible rfl | (simp [hb, lks_nil]; done) | rfl); (· simp [resAL, resA1, loadA, oneOr, hb, lks_nil]))
    · have hnil : acc = [] := List.eq_nil_of_length_eq_zero (by omega)
      have q1 : decide ((0 : Int) < (acc.length : Int)) = false := by rw [hnil]; rfl
      have hhe := lkHead_nil h1
      rw [← hnil] at hhe
      rw [hhe] at hnx hnb hkl
      have hl0 : lst acc = -1 := by rw [hnil]; rfl
      have e2 : t.vint.2 = lst acc + 1 + t.vint.2 := by omega
      (simp only [go_sem, Nat.reduceAdd, Nat.reduceMul, Int.reduceToNat, Nat.reduceLeDiff, Int.reduceLE, Int.reduceLT, ↓reduceIte, Int.reduceBEq, Int.reduceBNe, Int.reduceAdd, Int.reduceSub, Int.reduceMul, q1]; try refine okTr_and rfl ?_)
      refine CallK.u1 (delta_Read t.vint.1 pos 4 0 p0 p1 (by decide) hv1 hkl) rfl ?_; (simp only [go_sem, Nat.reduceAdd, Nat.reduceMul, Int.reduceToNat, Nat.reduceLeDiff, Int.reduceLE, Int.reduceLT, ↓reduceIte, Int.reduceBEq, Int.reduceBNe, Int.reduceAdd, Int.reduceSub, Int.reduceMul]; try refine okTr_and rfl ?_)
      by_cases hc : (t.vint.1.fall pos 4).1.code = 0
      · have hon := hnx hc
        have hl2 := hon.len
        rw [List.length_append, List.length_singleton, hi2] at hl2
        rw [← e2] at hon
        have esn : lks acc ++ [.agg [uA t.vint.2, slU (t.vint.1.fall pos 4).2]] = lks (acc ++ [⟨t.vint.2, (t.vint.1.fall pos 4).2⟩]) := lks_snoc acc ⟨t.vint.2, (t.vint.1.fall pos 4).2⟩
        refine CallK.r1 (Reader_Good (t.vint.1.fall pos 4).1 0) rfl ?_; (simp only [go_sem, Nat.reduceAdd, Nat.reduceMul, Int.reduceToNat, Nat.reduceLeDiff, Int.reduceLE, Int.reduceLT, ↓reduceIte, Int.reduceBEq, Int.reduceBNe, Int.reduceAdd, Int.reduceSub, Int.reduceMul, good_true hc, esn, lks_length, ei]; try refine okTr_and rfl ?_)
        (repeat ((with_reducible refine And.intro ?_ ?_); (· exact sd)))
        exact ⟨((t.vint.1.fall pos 4).1, acc ++ [⟨t.vint.2, (t.vint.1.fall pos 4).2⟩]), hon, by simp; omega, Wk.sel [0, 1] (by simp) rfl (by simp) rfl (by simp [ixs_z, rdr_ren]) (by simp [selT, ixs_z, lks, ixs])⟩
      · have hb := hnb hc
        refine CallK.r1 (Reader_Good (t.vint.1.fall pos 4).1 0) rfl ?_; (simp only [go_sem, Nat.reduceAdd, Nat.reduceMul, Int.reduceToNat, Nat.reduceLeDiff, Int.reduceLE, Int.reduceLT, ↓reduceIte, Int.reduceBEq, Int.reduceBNe, Int.reduceAdd, Int.reduceSub, Int.reduceMul, good_false hc]; try refine okTr_and rfl ?_)
        (refine FinK.nilk 4 2 rfl ?_; simp only [List.set_cons_zero, List.set_cons_succ])
        ((refine FinK.finB r123 [0] ?_ ?_); (· first | with_reducible rfl | (simp [hb, lks_nil]; done) | rfl); (· simp [resAL, resA1, loadA, oneOr, hb, lks_nil]))
  · have q0 : decide ((acc.length : Int) < (N : Int)) = false := by simp; omega
    have hb := many_end (F := linkF pos) (s := t) (N := N) (acc := acc) (by omega)
    rw [h6] at hb
    (simp only [go_sem, Nat.reduceAdd, Nat.reduceMul, Int.reduceToNat, Nat.reduceLeDiff, Int.reduceLE, Int.reduceLT, ↓reduceIte, Int.reduceBEq, Int.reduceBNe, Int.reduceAdd, Int.reduceSub, Int.reduceMul, q0]; try refine okTr_and rfl ?_)
    (refine FinK.untag 4 rfl ?_; simp only [untag1_sl, List.set_cons_zero, List.set_cons_succ])
    ((refine FinK.finB r123 [0] ?_ ?_); (· first | with_reducible rfl | (simp [hb]; done) | rfl); (· simp [resAL, resA1, loadA, oneOr, hb]))
theorem link_Read (s : RS) (pos : Int) (i : Nat) (p0 : 0 ≤ pos) (p1 : pos < 18446744073709551616) (hs : ROk s) (hn : s.l.length * 32 ≤ 100000000000000) : Ct Tryz.prog 123 [.ref i 0, uA pos] [(i, rdr s)] (fun _ => slL (s.links pos).2) [(i, rdr ((s.links pos).1))] (fun _ => []) := Ct.u1 (link_Read0 s pos p0 p1 hs hn) i cl (fun ρ => rdr_ren ρ _) (fun ρ => rdr_ren ρ _) (rdr_dead _) cl
end Go.Proofs.YtnfagphepkeedaaGreat
end
section
namespace Go.Proofs.YtnfagphepkeedaaGreat
open Go.RowKit

section
variable {P : Program} {f : FuncId} {args args₀ : List AV} {S : List AObj} {K : KT}
/-- A row that is given, and grows. -/
theorem Ct.o1 {o o' : AObj} {r₀ r : AV} (h : Does P f args₀ [o] r₀ [o']) (i : Nat) (ha : ∀ N, args₀.map (fun x => x.ren (ixs [i] N)) = args) (ho : ∀ ρ, o.ren ρ = o) (ho' : ∀ ρ, o'.ren ρ = o') (hd : o ≠ .dead) (hr : ∀ N, r₀.ren (ixs [i] N) = r) :
    Ct P f args [(i, o)] (fun _ => r) [(i, o')] (fun _ => []) :=
  Ct.mk h [i] (by simp) rfl (by simp) (by simpa using hd) (fun n N => ha N) (fun n N => by simpa using hr N) (fun n N => by simp [ho]) (.inl fun n N => by simp [ho']) (fun n N => rfl)
theorem CallK.o1 {r : AV} {i : Nat} {o o' : AObj} (h : Ct P f args [(i, o)] (fun _ => r) [(i, o')] (fun _ => [])) (hS : S[i]? = some o) (hK : K r [i] [(i, o')] []) : CallK P f args S K := CallK.of h (by simpa using hS) (by simp) hK
end
section
variable {P : Program} {f : FuncId} {args args' : List AV} {S : List AObj} {K : KT}
end
section
variable {P : Program} {f : FuncId} {args args' : List AV} {S : List AObj} {K : KT} {m : Nat} {fn : Func}
end
/-- One value told less exactly than another: whose its slices are is forgotten, an empty slice is one of anything. -/
structure Wa (x y : AV) : Prop where
  len : x.cells.length = y.cells.length
  val : ∀ (G : Gh) (v : Value), Rep G x v → Rep G y v
  cel : ∀ (j : Nat) (a b : AV), x.cells[j]? = some a → y.cells[j]? = some b → ∀ (G : Gh) (v : Value), Rep G a v → Rep G b v
def WaL (xs ys : List AV) : Prop := xs.length = ys.length ∧ ∀ (j : Nat) (x y : AV), xs[j]? = some x → ys[j]? = some y → Wa x y
theorem Wa.refl (x : AV) : Wa x x := ⟨rfl, fun _ _ r => r, fun j a b ha hb G v r => by rw [ha] at hb; injection hb with hb; subst hb; exact r⟩
theorem WaL.nil : WaL [] [] := ⟨rfl, fun j x y h => by simp at h⟩
theorem WaL.cons {x y : AV} {xs ys : List AV} (h : Wa x y) (k : WaL xs ys) : WaL (x :: xs) (y :: ys) := by
  refine ⟨by simp [k.1], fun j a b ha hb => ?_⟩
  cases j with
  | zero => simp at ha hb; subst ha hb; exact h
  | succ j => simp at ha hb; exact k.2 j a b ha hb
theorem WaL.refl (xs : List AV) : WaL xs xs := ⟨rfl, fun j x y hx hy => by rw [hx] at hy; injection hy with hy; subst hy; exact .refl _⟩
theorem WaL.map {α : Type} {f g : α → AV} (h : ∀ x, Wa (f x) (g x)) (l : List α) : WaL (l.map f) (l.map g) := ⟨by simp, fun j x y hx hy => by
  obtain ⟨a, ha, rfl⟩ := map_get hx
  obtain ⟨b, hb, rfl⟩ := map_get hy
  rw [ha] at hb; injection hb with hb; subst hb; exact h a⟩
theorem WaL.app {xs ys xs' ys' : List AV} (h : WaL xs ys) (k : WaL xs' ys') : WaL (xs ++ xs') (ys ++ ys') := by
  refine ⟨by simp [h.1, k.1], fun j x y hx hy => ?_⟩
  rw [List.getElem?_append] at hx hy
  rw [h.1] at hx
  split at hx
  · rename_i hl; rw [if_pos hl] at hy; exact h.2 j x y hx hy
  · rename_i hl; rw [if_neg hl] at hy; exact k.2 _ x y hx hy
theorem one_cel {x y : AV} (hx : x.cells = [x]) (hy : y.cells = [y]) (h : ∀ (G : Gh) (v : Value), Rep G x v → Rep G y v) : Wa x y := by
  refine ⟨by rw [hx, hy]; rfl, h, fun j a b ha hb G v r => ?_⟩
  rw [hx] at ha
  rw [hy] at hb
  cases j with
  | zero => simp at ha hb; subst ha hb; exact h G v r
  | succ j => simp at ha
theorem Wa.sl {t t' : Tag} {k k' : Nat} {xs ys : List AV} (ht : t' = .none ∨ t' = t) (hk : k = k' ∨ xs = []) (hw : WaL xs ys) : Wa (.sl t k xs) (.sl t' k' ys) := by
  obtain ⟨hl, h⟩ := hw
  refine one_cel rfl rfl fun G v r => ?_
  cases r with
  | @sl _ _ _ A c b o vs hc hA hk1 h1 h2 h3 ht1 =>
    have htag : TagOk G t' A ys.length c := by
      rcases ht with rfl | rfl
      · trivial
      · rw [← hl]; exact ht1
    have main : Rep G (.sl t' k' ys) (.slice A ys.length c) := by
      rcases hk with rfl | rfl
      · refine .sl (b := b) (o := o) vs (by rw [← hl]; exact hc) (by rw [← hl]; exact hA) (fun i y hy => ?_) (by rw [← hl]; exact h1) (by rw [← hl]; exact h2) (fun i j y z hy hz => ?_) htag
        · have hi : i < xs.length := by rw [hl]; exact (List.getElem?_eq_some_iff.1 hy).1
          have hx := List.getElem?_eq_getElem hi
          rw [← (h i _ y hx hy).len]; exact hk1 i _ hx
        · have hi : i < xs.length := by rw [hl]; exact (List.getElem?_eq_some_iff.1 hy).1
          have hx := List.getElem?_eq_getElem hi
          have hw := h i _ y hx hy
          have hj : j < xs[i].cells.length := by rw [hw.len]; exact (List.getElem?_eq_some_iff.1 hz).1
          have hu := List.getElem?_eq_getElem hj
          exact hw.cel j _ z hu hz G _ (h3 i j _ _ hx hu)
      · obtain rfl : ys = [] := List.eq_nil_of_length_eq_zero (by rw [← hl]; rfl)
        exact .sl (b := b) (o := o) vs (by simp) (by simp) (by simp) (by simp) (by simp) (by simp) htag
    rw [← hl] at main; exact main
theorem Wa.agg {xs ys : List AV} (hw : WaL xs ys) : Wa (.agg xs) (.agg ys) := by
  obtain ⟨hl, h⟩ := hw
  refine ⟨hl, fun G v r => ?_, fun j a b ha hb G v r => (h j a b ha hb).val G v r⟩
  cases r with
  | @agg _ vs h0 h2 h3 =>
    refine .agg (by rw [← hl]; exact h0) h2 fun j y v hy hv => ?_
    have hj : j < xs.length := by rw [hl]; exact (List.getElem?_eq_some_iff.1 hy).1
    have hx := List.getElem?_eq_getElem hj
    exact (h j _ y hx hy).val G v (h3 j _ v hx hv)
theorem Wa.tup {xs ys : List AV} (hw : WaL xs ys) : Wa (.tup xs) (.tup ys) := by
  obtain ⟨hl, h⟩ := hw
  refine one_cel rfl rfl fun G v r => ?_
  cases r with
  | @tup _ vs h0 h3 =>
    refine .tup (by rw [← hl]; exact h0) fun j y v hy hv => ?_
    have hj : j < xs.length := by rw [hl]; exact (List.getElem?_eq_some_iff.1 hy).1
    have hx := List.getElem?_eq_getElem hj
    exact (h j _ y hx hy).val G v (h3 j _ v hx hv)
theorem Wa.slN {t : Tag} {k : Nat} {xs ys : List AV} (h : WaL xs ys) : Wa (.sl t k xs) (.sl .none k ys) := .sl (.inl rfl) (.inl rfl) h
theorem Wa.slS {t : Tag} {k : Nat} {xs ys : List AV} (h : WaL xs ys) : Wa (.sl t k xs) (.sl t k ys) := .sl (.inr rfl) (.inl rfl) h
theorem Wa.none {t : Tag} {k : Nat} {xs : List AV} : Wa (.sl t k xs) (.sl .none k xs) := .slN (WaL.refl xs)
theorem Wa.nil {t : Tag} {k k' : Nat} : Wa (.sl t k []) (.sl .none k' []) := .sl (.inl rfl) (.inr rfl) WaL.nil
section
variable {P : Program} {f : FuncId} {args args' : List AV} {S : List AObj} {m : Nat} {fn : Func} {tm : List AV}
theorem Ct.weak {rd : List (Nat × AObj)} {r : Nat → AV} {upd : List (Nat × AObj)} {new : Nat → List AObj} (h : Ct P f args' rd r upd new) (he : WaL args args') : Ct P f args rd r upd new := fun T n h1 h2 => by
  have hd := h T n h1 h2
  refine ⟨hd.1, fun G w vs hw hr => hd.2 G w vs hw ⟨by rw [← he.1]; exact hr.1, fun j y v hy hv => ?_⟩⟩
  have hj : j < args.length := by rw [he.1]; exact (List.getElem?_eq_some_iff.1 hy).1
  have hx := List.getElem?_eq_getElem hj
  exact (he.2 j _ y hx hy).val G v (hr.2 j _ v hx hv)
theorem Wk.wa (t : Nat) {x y : AV} (ht : tm[t]? = some x) (h : Wa x y) : Wk m tm S (tm.set t y) S := fun G0 S0 w0 G a w _ hz => by
  have htl := (List.getElem?_eq_some_iff.1 ht).1
  refine ⟨G, hz.left, by simp [hz.size], fun t' z u hx hu => ?_, hz.defers, hz.wd0⟩
  by_cases et : t' = t
  · subst et
    simp [htl] at hx; subst hx
    exact h.val _ _ (hz.rep t' x u ht hu)
  · rw [List.getElem?_set_ne (Ne.symm et)] at hx
    exact hz.rep t' z u hx hu
theorem FinK.wa {S' : List AObj} {r : AV} (t : Nat) {x y : AV} (ht : tm[t]? = some x) (h : Wa x y) (k : FinK P m fn (tm.set t y) S r S') : FinK P m fn tm S r S' := FinK.wk (Wk.wa t ht h) k
theorem Wk.wao (i : Nat) {xs ys : List AV} (hi : S[i]? = some (.cells xs)) (h : WaL xs ys) : Wk m tm S tm (S.set i (.cells ys)) := fun G0 S0 w0 G a w _ hz => by
  refine ⟨G, hz.left.trans (Left.reobj hz.left.wd hi h.1.symm fun k y v hy hx => ?_), hz.size, hz.rep, hz.defers, hz.wd0⟩
  have hk : k < xs.length := by rw [h.1]; exact (List.getElem?_eq_some_iff.1 hy).1
  have he := List.getElem?_eq_getElem hk
  exact (h.2 k _ y he hy).val _ _ (hx _ he)
theorem FinK.wao {S' : List AObj} {r : AV} (i : Nat) {xs ys : List AV} (hi : S[i]? = some (.cells xs)) (h : WaL xs ys) (k : FinK P m fn tm (S.set i (.cells ys)) r S') : FinK P m fn tm S r S' := FinK.wk (Wk.wao i hi h) k
end
end Go.Proofs.YtnfagphepkeedaaGreat
end
section
namespace Go.Proofs.YtnfagphepkeedaaGreat
open Go.RowKit

set_option maxRecDepth 100000 in
theorem ref23_Right0 (pos : Int) (l : List Lk) (hm : Smalls l) : Does Tryz.prog 173 [uA pos, slL l] [] (bA (rightL pos l)) [] := by
  obtain ⟨hn, hb⟩ := hm
  refine Does.runA Tryz.func173 b173 n173 Tryz.ntmps173 ?_; simp only [c173, go_sem, Nat.reduceAdd, Nat.reduceMul, Int.reduceToNat, Nat.reduceLeDiff, Int.reduceLE, Int.reduceLT, ↓reduceIte, Int.reduceBEq, Int.reduceBNe, Int.reduceAdd, Int.reduceSub, Int.reduceMul, lks_length]; try refine okTr_and rfl ?_
  by_cases h16 : l.length ≤ 16
  · have q0 : decide (16 < (l.length : Int)) = false := by simp; omega
    (simp only [go_sem, Nat.reduceAdd, Nat.reduceMul, Int.reduceToNat, Nat.reduceLeDiff, Int.reduceLE, Int.reduceLT, ↓reduceIte, Int.reduceBEq, Int.reduceBNe, Int.reduceAdd, Int.reduceSub, Int.reduceMul, q0]; try refine okTr_and rfl ?_)
    refine loop_of (α := Nat) (fun k => [uA pos, slL l, .any, .any, .any, iA k, .any, .any, .any, .any, .any, .any, .any, .any, .any, .any, .any, .any, .any, .any, .any, .any, .any, .any, .any, .any, .any, .any, .any, .any, .any, .any, .any, .any, .any, .any, .any, .any, .any, .any, .any, .any, .any, .any, .any, .any, .any, .any, .any, .any]) (fun _ => []) (fun k => k ≤ l.length ∧ ∀ i, i < k → (0 < i → (l.getD (i - 1) lk0).st < (l.getD i lk0).st) ∧ goodL pos (l.getD i lk0) = true) (fun k => l.length - k) 0 ⟨by simp, fun i hi => by omega⟩ (Wk.to (by simp) (by simp [leT])) ?_
    rintro k ⟨hk, hall⟩
    (simp only [go_sem, Nat.reduceAdd, Nat.reduceMul, Int.reduceToNat, Nat.reduceLeDiff, Int.reduceLE, Int.reduceLT, ↓reduceIte, Int.reduceBEq, Int.reduceBNe, Int.reduceAdd, Int.reduceSub, Int.reduceMul, lks_length]; try refine okTr_and rfl ?_)
    by_cases hlt : k < l.length
    · have q1 : decide ((k : Int) < (l.length : Int)) = true := by simp; omega
      have ek := i64_succ k (by omega)
      have g := lks_get l k hlt
      have hm := lk_mem l k hlt
      have hbk := hb _ hm
      obtain ⟨x, hx⟩ : ∃ x, l.getD k lk0 = x := ⟨_, rfl⟩
      rw [hx] at g hm hbk
      have hno : ∀ (h : rightL pos l = true), (0 < k → (l.getD (k - 1) lk0).st < x.st) ∧ x.bk.length ≤ 4 ∧ falls pos x.bk = true := fun h => by
        obtain ⟨r1, r2, r3⟩ := rightL_iff.1 h
        refine ⟨fun h0 => ?_, goodL_iff.1 (r3 x hm)⟩
        have := risesL_iff.1 r2 k hlt h0
        rw [hx] at this; exact this
      have bad : (0 < k ∧ ¬ (l.getD (k - 1) lk0).st < x.st) ∨ ¬ x.bk.length ≤ 4 ∨ ¬ falls pos x.bk = true → rightL pos l = false := fun h => by
        cases hr : rightL pos l with
        | false => rfl
        | true =>
          obtain ⟨a, b, c⟩ := hno hr
          rcases h with ⟨h1, h2⟩ | h | h
          · exact absurd (a h1) h2
          · exact absurd b h
          · exact absurd c h
      have good : (0 < k → (l.getD (k - 1) lk0).st < x.st) → x.bk.length ≤ 4 → falls pos x.bk = true → ∀ i, i < k + 1 → (0 < i → (l.getD (i - 1) lk0).st < (l.getD i lk0).st) ∧ goodL pos (l.getD i lk0) = true := fun h1 h2 h3 i hi => by
        rcases Nat.lt_or_ge i k with h | h
        · exact hall i h
        · obtain rfl : i = k := by omega
          rw [hx]; exact ⟨h1, goodL_iff.2 ⟨h2, h3⟩⟩
      have hfin : ∀ b : Bool, b = falls pos x.bk → (b = true → (0 < k → (l.getD (k - 1) lk0).st < x.st) → x.bk.length ≤ 4 → falls pos x.bk = true) := fun b hb h _ _ => by rw [← hb]; exact h
      by_cases h0 : 0 < k
      · have q2 : decide ((0 : Int) < (k : Int)) = true := by simp; omega
        have ep := i64_pred k h0 (by omega)
        have g2 := lks_get l (k - 1) (by omega)
        by_cases hs : (l.getD (k - 1) lk0).st < x.st
        · have q3 : decide (x.st ≤ (l.getD (k - 1) lk0).st) = false := decide_eq_false (by omega)
          by_cases h4 : x.bk.length ≤ 4
          · have q4 : decide (4 < (x.bk.length : Int)) = false := by simp; omega
            (simp only [go_sem, Nat.reduceAdd, Nat.reduceMul, Int.reduceToNat, Nat.reduceLeDiff, Int.reduceLE, Int.reduceLT, ↓reduceIte, Int.reduceBEq, Int.reduceBNe, Int.reduceAdd, Int.reduceSub, Int.reduceMul, q1, q2, g, g2, ep, q3, q4, lks_length, ints_length, Int.toNat_natCast]; try refine okTr_and rfl ?_)
            (repeat ((with_reducible refine And.intro ?_ ?_); (· exact sd)))
            refine CallK.p (ref22_Falls pos x.bk (by omega)) ?_
            by_cases hf : falls pos x.bk = true
            · (simp only [go_sem, Nat.reduceAdd, Nat.reduceMul, Int.reduceToNat, Nat.reduceLeDiff, Int.reduceLE, Int.reduceLT, ↓reduceIte, Int.reduceBEq, Int.reduceBNe, Int.reduceAdd, Int.reduceSub, Int.reduceMul, hf, ek]; try refine okTr_and rfl ?_)
              (repeat ((with_reducible refine And.intro ?_ ?_); (· exact sd)))
              exact ⟨k + 1, ⟨hlt, good (fun _ => hs) h4 hf⟩, by omega, Wk.to (by simp) (by simp [leT])⟩
            · have e := bad (.inr (.inr hf))
              have hf' : falls pos x.bk = false := by simpa using hf
              (simp only [go_sem, Nat.reduceAdd, Nat.reduceMul, Int.reduceToNat, Nat.reduceLeDiff, Int.reduceLE, Int.reduceLT, ↓reduceIte, Int.reduceBEq, Int.reduceBNe, Int.reduceAdd, Int.reduceSub, Int.reduceMul, hf']; try refine okTr_and rfl ?_)
              (repeat ((with_reducible refine And.intro ?_ ?_); (· exact sd)))
              ((refine FinK.finB r173 [] ?_ ?_); (· first | with_reducible rfl | (simp [e]; done) | rfl); (· simp [resAL, resA1, loadA, oneOr, e]))
          · have q4 : decide (4 < (x.bk.length : Int)) = true := by simp; omega
            have e := bad (.inr (.inl h4))
            (simp only [go_sem, Nat.reduceAdd, Nat.reduceMul, Int.reduceToNat, Nat.reduceLeDiff, Int.reduceLE, Int.reduceLT, ↓reduceIte, Int.reduceBEq, Int.reduceBNe, Int.reduceAdd, Int.reduceSub, Int.reduceMul, q1, q2, g, g2, ep, q3, q4, lks_length, ints_length, Int.toNat_natCast]; try refine okTr_and rfl ?_)
            (repeat ((with_reducible refine And.intro ?_ ?_); (· exact sd)))
            ((refine FinK.finB r173 [] ?_ ?_); (· first | with_reducible rfl | (simp [e]; done) | rfl); (· simp [resAL, resA1, loadA, oneOr, e]))
        · have q3 : decide (x.st ≤ (l.getD (k - 1) lk0).st) = true := decide_eq_true (by omega)
          have e := bad (.inl ⟨h0, hs⟩)
          (simp only [go_sem, Nat.reduceAdd, Nat.reduceMul, Int.reduceToNat, Nat.reduceLeDiff, Int.reduceLE, Int.reduceLT, ↓reduceIte, Int.reduceBEq, Int.reduceBNe, Int.reduceAdd, Int.reduceSub, Int.reduceMul, q1, q2, g, g2, ep, q3, lks_length, ints_length, Int.toNat_natCast]; try refine okTr_and rfl ?_)
          (repeat ((with_reducible refine And.intro ?_ ?_); (· exact sd)))
          ((refine FinK.finB r173 [] ?_ ?_); (· first | with_reducible rfl | (simp [e]; done) | rfl); (· simp [resAL, resA1, loadA, oneOr, e]))
      · have q2 : decide ((0 : Int) < (k : Int)) = false := by simp; omega
        by_cases h4 : x.bk.length ≤ 4
        · have q4 : decide (4 < (x.bk.length : Int)) = false := by simp; omega
          (simp only [go_sem, Nat.reduceAdd, Nat.reduceMul, Int.reduceToNat, Nat.reduceLeDiff, Int.reduceLE, Int.reduceLT, ↓reduceIte, Int.reduceBEq, Int.reduceBNe, Int.reduceAdd, Int.reduceSub, Int.reduceMul, q1, q2, g, q4, lks_length, ints_length, Int.toNat_natCast]; try refine okTr_and rfl ?_)
          (repeat ((with_reducible refine And.intro ?_ ?_); (· exact sd)))
          refine CallK.p (ref22_Falls pos x.bk (by omega)) ?_
          by_cases hf : falls pos x.bk = true
          · (simp only [go_sem, Nat.reduceAdd, Nat.reduceMul, Int.reduceToNat, Nat.reduceLeDiff, Int.reduceLE, Int.reduceLT, ↓reduceIte, Int.reduceBEq, Int.reduceBNe, Int.reduceAdd, Int.reduceSub, Int.reduceMul, hf, ek]; try refine okTr_and rfl ?_)
            (repeat ((with_reducible refine And.intro ?_ ?_); (· exact sd)))
            exact ⟨k + 1, ⟨hlt, good (fun h => absurd h h0) h4 hf⟩, by omega, Wk.to (by simp) (by simp [leT])⟩
          · have e := bad (.inr (.inr hf))
            have hf' : falls pos x.bk = false := by simpa using hf
            (simp only [go_sem, Nat.reduceAdd, Nat.reduceMul, Int.reduceToNat, Nat.reduceLeDiff, Int.reduceLE, Int.reduceLT, ↓reduceIte, Int.reduceBEq, Int.reduceBNe, Int.reduceAdd, Int.reduceSub, Int.reduceMul, hf']; try refine okTr_and rfl ?_)
            (repeat ((with_reducible refine And.intro ?_ ?_); (· exact sd)))
            ((refine FinK.finB r173 [] ?_ ?_); (· first | with_reducible rfl | (simp [e]; done) | rfl); (· simp [resAL, resA1, loadA, oneOr, e]))
        · have q4 : decide (4 < (x.bk.length : Int)) = true := by simp; omega
          have e := bad (.inr (.inl h4))
          (simp only [go_sem, Nat.reduceAdd, Nat.reduceMul, Int.reduceToNat, Nat.reduceLeDiff, Int.reduceLE, Int.reduceLT, ↓reduceIte, Int.reduceBEq, Int.reduceBNe, Int.reduceAdd, Int.reduceSub, Int.reduceMul, q1, q2, g, q4, lks_length, ints_length, Int.toNat_natCast]; try refine okTr_and rfl ?_)
          (repeat ((with_reducible refine And.intro ?_ ?_); (· exact sd)))
          ((refine FinK.finB r173 [] ?_ ?_); (· first | with_reducible rfl | (simp [e]; done) | rfl); (· simp [resAL, resA1, loadA, oneOr, e]))
    · have q1 : decide ((k : Int) < (l.length : Int)) = false := by simp; omega
      have e : rightL pos l = true := rightL_iff.2 ⟨h16, risesL_iff.2 fun i hi h0 => (hall i (by omega)).1 h0, fun x hx => by
        obtain ⟨i, hi, rfl⟩ := List.getElem_of_mem hx
        have := (hall i (by omega)).2
        simpa [hi] using this⟩
      (simp only [go_sem, Nat.reduceAdd, Nat.reduceMul, Int.reduceToNat, Nat.reduceLeDiff, Int.reduceLE, Int.reduceLT, ↓reduceIte, Int.reduceBEq, Int.reduceBNe, Int.reduceAdd, Int.reduceSub, Int.reduceMul, q1]; try refine okTr_and rfl ?_)
      ((refine FinK.finB r173 [] ?_ ?_); (· first | with_reducible rfl | (simp [e]; done) | rfl); (· simp [resAL, resA1, loadA, oneOr, e]))
  · have q0 : decide (16 < (l.length : Int)) = true := by simp; omega
    have he : rightL pos l = false := by simp [rightL, h16]
    (simp only [go_sem, Nat.reduceAdd, Nat.reduceMul, Int.reduceToNat, Nat.reduceLeDiff, Int.reduceLE, Int.reduceLT, ↓reduceIte, Int.reduceBEq, Int.reduceBNe, Int.reduceAdd, Int.reduceSub, Int.reduceMul, q0]; try refine okTr_and rfl ?_)
    ((refine FinK.finB r173 [] ?_ ?_); (· first | with_reducible rfl | (simp [he]; done) | rfl); (· simp [resAL, resA1, loadA, oneOr, he]))
theorem ref23_Right (pos : Int) (l : List Lk) (hm : Smalls l) : Ct Tryz.prog 173 [uA pos, slL l] [] (fun _ => bA (rightL pos l)) [] (fun _ => []) := (ref23_Right0 pos l hm).toCt cl cl
set_option maxRecDepth 100000 in
theorem ref23_Bytes0 (pos : Int) (l : List Lk) (hl : Lks l) (hr : rightL pos l = true) (p0 : 0 ≤ pos) (p1 : pos < 18446744073709551616) : Does Tryz.prog 149 [uA pos, slL l] [] (ownA 0 (linksB pos l)) [.row 1 (linksB pos l).length] := by
  obtain ⟨r1, r2, r3⟩ := rightL_iff.1 hr
  have hvb : vb (l.length : Int) = [(l.length : Int)] := vb_lt (by omega)
  have eu : IntKind.u8.wrap (l.length : Int) = l.length := IntWalk.u8_in _ (by omega)
  have hbl := linksB_len hr
  have hbe : linksB pos l = vb (l.length : Int) ++ encs (linkF pos).enc [] (l.take l.length) := by unfold linksB; rw [List.take_length]
  have hbl2 : (vb (l.length : Int) ++ encs (linkF pos).enc [] (l.take l.length)).length ≤ 970 := by rw [← hbe]; exact hbl
  refine Does.runA Tryz.func149 b149 n149 Tryz.ntmps149 ?_; simp only [c149, go_sem, Nat.reduceAdd, Nat.reduceMul, Int.reduceToNat, Nat.reduceLeDiff, Int.reduceLE, Int.reduceLT, ↓reduceIte, Int.reduceBEq, Int.reduceBNe, Int.reduceAdd, Int.reduceSub, Int.reduceMul, lks_length, eu]; try refine okTr_and rfl ?_
  refine loop_of (α := Nat) (fun k => [uA pos, slL l, .any, .any, .any, ownA 0 (vb (l.length : Int) ++ encs (linkF pos).enc [] (l.take k)), iA k, .any, .any, .any, .any, .any, .any, .any, .any, .any, .any, .any, .any, .any, .any, .any, .any, .any, .any, .any, .any, .any, .any, .any, .any, .any, .any, .any, .any, .any, .any, .any, .any, .any, .any, .any, .any, .any, .any, .any, .any, .any]) (fun k => [.row 1 (vb (l.length : Int) ++ encs (linkF pos).enc [] (l.take k)).length]) (fun k => k ≤ l.length) (fun k => l.length - k) 0 (by simp) ((Wk.row 5 1 rfl (.inl rfl) (by decide)).trans (Wk.to (by simp [encs, hvb]) (by simp [leT, encs, hvb, ints]))) ?_
  intro k hk
  (simp only [go_sem, Nat.reduceAdd, Nat.reduceMul, Int.reduceToNat, Nat.reduceLeDiff, Int.reduceLE, Int.reduceLT, ↓reduceIte, Int.reduceBEq, Int.reduceBNe, Int.reduceAdd, Int.reduceSub, Int.reduceMul, lks_length]; try refine okTr_and rfl ?_)
  by_cases hlt : k < l.length
  · have q1 : decide ((k : Int) < (l.length : Int)) = true := by simp; omega
    have ek := i64_succ k (by omega)
    have g := lks_get l k hlt
    have hx := stpL_range hl r2 hlt
    have ho := hl _ (lk_mem l k hlt)
    have hgd := goodL_iff.1 (r3 _ (lk_mem l k hlt))
    have he := encs_take (pos := pos) (l := l) (k := k) hlt
    have hel := congrArg List.length he
    simp only [List.length_append] at hel hbl2
    have hle := encs_le (pos := pos) (l := l) (k + 1) hlt
    rw [List.take_length] at hbl2
    have hstep : vb (l.length : Int) ++ encs (linkF pos).enc [] (l.take k) ++ vb (stpL l k) ++ fallB pos (l.getD k lk0).bk = vb (l.length : Int) ++ encs (linkF pos).enc [] (l.take (k + 1)) := by rw [he]; simp only [List.append_assoc]
    have est : stpL l k = if k = 0 then (l.getD k lk0).st else (l.getD k lk0).st - (l.getD (k - 1) lk0).st - 1 := by
      unfold stpL
      rw [lst_take l k (by omega)]
      split
      · omega
      · rfl
    by_cases h0 : 0 < k
    · have q2 : decide ((0 : Int) < (k : Int)) = true := by simp; omega
      rw [if_neg (by omega)] at est
      have ep := i64_pred k h0 (by omega)
      have g2 := lks_get l (k - 1) (by omega)
      have hp0 := (hl _ (lk_mem l (k - 1) (by omega))).s0
      have ho1 := ho.s1
      have w1 : IntKind.u64.wrap ((l.getD k lk0).st - (l.getD (k - 1) lk0).st) = (l.getD k lk0).st - (l.getD (k - 1) lk0).st := IntWalk.u64_in _ (by omega)
      have w2 : IntKind.u64.wrap ((l.getD k lk0).st - (l.getD (k - 1) lk0).st - 1) = stpL l k := by rw [IntWalk.u64_in _ (by omega)]; omega
      (simp only [go_sem, Nat.reduceAdd, Nat.reduceMul, Int.reduceToNat, Nat.reduceLeDiff, Int.reduceLE, Int.reduceLT, ↓reduceIte, Int.reduceBEq, Int.reduceBNe, Int.reduceAdd, Int.reduceSub, Int.reduceMul, q1, q2, g, g2, ep, w1, w2, lks_length, Int.toNat_natCast]; try refine okTr_and rfl ?_)
      (repeat ((with_reducible refine And.intro ?_ ?_); (· exact sd)))
      refine CallK.p (ref04_Bytes (stpL l k) hx.1 hx.2) ?_; (simp only [go_sem, Nat.reduceAdd, Nat.reduceMul, Int.reduceToNat, Nat.reduceLeDiff, Int.reduceLE, Int.reduceLT, ↓reduceIte, Int.reduceBEq, Int.reduceBNe, Int.reduceAdd, Int.reduceSub, Int.reduceMul, ints_append, ints_length, g, lks_length, Int.toNat_natCast]; try refine okTr_and rfl ?_)
      (repeat ((with_reducible refine And.intro ?_ ?_); (· exact sd)))
      refine CallK.n (ref22_Bytes pos (l.getD k lk0).bk p1 ho.b hgd.2 (by omega)) ?_; (simp only [go_sem, Nat.reduceAdd, Nat.reduceMul, Int.reduceToNat, Nat.reduceLeDiff, Int.reduceLE, Int.reduceLT, ↓reduceIte, Int.reduceBEq, Int.reduceBNe, Int.reduceAdd, Int.reduceSub, Int.reduceMul, ints_append, ints_length, hstep, ← List.length_append, ek]; try refine okTr_and rfl ?_)
      (repeat ((with_reducible refine And.intro ?_ ?_); (· exact sd)))
      exact ⟨k + 1, by omega, by omega, Wk.sel [0] (by simp) rfl (by simp) rfl (by simp [ixs_z, ← hstep]) (by simp [selT, ixs_z])⟩
    · have q2 : decide ((0 : Int) < (k : Int)) = false := by simp; omega
      rw [if_pos (by omega)] at est
      (simp only [go_sem, Nat.reduceAdd, Nat.reduceMul, Int.reduceToNat, Nat.reduceLeDiff, Int.reduceLE, Int.reduceLT, ↓reduceIte, Int.reduceBEq, Int.reduceBNe, Int.reduceAdd, Int.reduceSub, Int.reduceMul, q1, q2, g, ← est, lks_length, Int.toNat_natCast]; try refine okTr_and rfl ?_)
      (repeat ((with_reducible refine And.intro ?_ ?_); (· exact sd)))
      refine CallK.p (ref04_Bytes (stpL l k) hx.1 hx.2) ?_; (simp only [go_sem, Nat.reduceAdd, Nat.reduceMul, Int.reduceToNat, Nat.reduceLeDiff, Int.reduceLE, Int.reduceLT, ↓reduceIte, Int.reduceBEq, Int.reduceBNe, Int.reduceAdd, Int.reduceSub, Int.reduceMul, ints_append, ints_length, g, lks_length, Int.toNat_natCast]; try refine okTr_and rfl ?_)
      (repeat ((with_reducible refine And.intro ?_ ?_); (· exact sd)))
      refine CallK.n (ref22_Bytes pos (l.getD k lk0).bk p1 ho.b hgd.2 (by omega)) ?_; (simp only [go_sem, Nat.reduceAdd, Nat.reduceMul, Int.reduceToNat, Nat.reduceLeDiff, Int.reduceLE, Int.reduceLT, ↓reduceIte, Int.reduceBEq, Int.reduceBNe, Int.reduceAdd, Int.reduceSub, Int.reduceMul, ints_append, ints_length, hstep, ← List.length_append, ek]; try refine okTr_and rfl ?_)
      (repeat ((with_reducible refine And.intro ?_ ?_); (· exact sd)))
      exact ⟨k + 1, by omega, by omega, Wk.sel [0] (by simp) rfl (by simp) rfl (by simp [ixs_z, ← hstep]) (by simp [selT, ixs_z])⟩
  · have q1 : decide ((k : Int) < (l.length : Int)) = false := by simp; omega
    have ek : k = l.length := by omega
    subst ek
    rw [← hbe]
    (simp only [go_sem, Nat.reduceAdd, Nat.reduceMul, Int.reduceToNat, Nat.reduceLeDiff, Int.reduceLE, Int.reduceLT, ↓reduceIte, Int.reduceBEq, Int.reduceBNe, Int.reduceAdd, Int.reduceSub, Int.reduceMul, q1]; try refine okTr_and rfl ?_)
    exact FinK.finA r149 [0]
theorem ref23_Bytes (pos : Int) (l : List Lk) (hl : Lks l) (hr : rightL pos l = true) (p0 : 0 ≤ pos) (p1 : pos < 18446744073709551616) : Ct Tryz.prog 149 [uA pos, slL l] [] (fun n => ownA n (linksB pos l)) [] (fun _ => [.row 1 (linksB pos l).length]) := Ct.n (ref23_Bytes0 pos l hl hr p0 p1) cl cl clo
theorem ref23_One0 (x y : Lk) (hn : x.bk.length ≤ 1000000) : Does Tryz.prog 197 [lkA x, lkA y] [] (bA (decide (x = y))) [] := by
  refine Does.runA Tryz.func197 b197 n197 Tryz.ntmps197 ?_; simp only [c197, go_sem, Nat.reduceAdd, Nat.reduceMul, Int.reduceToNat, Nat.reduceLeDiff, Int.reduceLE, Int.reduceLT, ↓reduceIte, Int.reduceBEq, Int.reduceBNe, Int.reduceAdd, Int.reduceSub, Int.reduceMul]; try refine okTr_and rfl ?_
  by_cases c0 : x.st = y.st
  · have q0 : (x.st == y.st) = true := by simpa using c0
    have e : sameB x.bk y.bk = decide (x = y) := by
      unfold sameB
      rw [Bool.eq_iff_iff, decide_eq_true_eq, decide_eq_true_eq]
      cases x; cases y; simp only at c0; simp [c0]
    (simp only [go_sem, Nat.reduceAdd, Nat.reduceMul, Int.reduceToNat, Nat.reduceLeDiff, Int.reduceLE, Int.reduceLT, ↓reduceIte, Int.reduceBEq, Int.reduceBNe, Int.reduceAdd, Int.reduceSub, Int.reduceMul, q0]; try refine okTr_and rfl ?_)
    refine CallK.p (ref05_Same x.bk y.bk (by omega)) ?_; (simp only [go_sem, Nat.reduceAdd, Nat.reduceMul, Int.reduceToNat, Nat.reduceLeDiff, Int.reduceLE, Int.reduceLT, ↓reduceIte, Int.reduceBEq, Int.reduceBNe, Int.reduceAdd, Int.reduceSub, Int.reduceMul]; try refine okTr_and rfl ?_)
    ((refine FinK.finB r197 [] ?_ ?_); (· first | with_reducible rfl | (simp [e]; done) | rfl); (· simp [resAL, resA1, loadA, oneOr, e]))
  · have q0 : (x.st == y.st) = false := by simpa using c0
    have e : decide (x = y) = false := by simp only [decide_eq_false_iff_not]; rintro rfl; exact c0 rfl
    (simp only [go_sem, Nat.reduceAdd, Nat.reduceMul, Int.reduceToNat, Nat.reduceLeDiff, Int.reduceLE, Int.reduceLT, ↓reduceIte, Int.reduceBEq, Int.reduceBNe, Int.reduceAdd, Int.reduceSub, Int.reduceMul, q0]; try refine okTr_and rfl ?_)
    ((refine FinK.finB r197 [] ?_ ?_); (· first | with_reducible rfl | (simp [e]; done) | rfl); (· simp [resAL, resA1, loadA, oneOr, e]))
theorem ref23_One (x y : Lk) (hn : x.bk.length ≤ 1000000) : Ct Tryz.prog 197 [lkA x, lkA y] [] (fun _ => bA (decide (x = y))) [] (fun _ => []) := (ref23_One0 x y hn).toCt cl cl
def sameL (l m : List Lk) : Bool := decide (l = m)
set_option maxRecDepth 100000 in
theorem ref23_Same0 (l m : List Lk) (hm : Smalls l) : Does Tryz.prog 192 [slL l, slL m] [] (bA (sameL l m)) [] := by
  obtain ⟨hn, hb⟩ := hm
  refine Does.runA Tryz.func192 b192 n192 Tryz.ntmps192 ?_; simp only [c192, go_sem, Nat.reduceAdd, Nat.reduceMul, Int.reduceToNat, Nat.reduceLeDiff, Int.reduceLE, Int.reduceLT, ↓reduceIte, Int.reduceBEq, Int.reduceBNe, Int.reduceAdd, Int.reduceSub, Int.reduceMul, lks_length]; try refine okTr_and rfl ?_
  by_cases hlen : l.length = m.length
  · have q0 : ((l.length : Int) != (m.length : Int)) = false := by simp; omega
    (simp only [go_sem, Nat.reduceAdd, Nat.reduceMul, Int.reduceToNat, Nat.reduceLeDiff, Int.reduceLE, Int.reduceLT, ↓reduceIte, Int.reduceBEq, Int.reduceBNe, Int.reduceAdd, Int.reduceSub, Int.reduceMul, q0]; try refine okTr_and rfl ?_)
    refine loop_of (α := Nat) (fun k => [slL l, slL m, .any, .any, .any, iA k, .any, .any, .any, .any, .any, .any, .any, .any, .any, .any, .any, .any, .any, .any, .any, .any, .any, .any, .any, .any, .any]) (fun _ => []) (fun k => k ≤ l.length ∧ ∀ i, i < k → l.getD i lk0 = m.getD i lk0) (fun k => l.length - k) 0 ⟨by simp, fun i hi => by omega⟩ (Wk.to (by simp) (by simp [leT])) ?_
    rintro k ⟨hk, hall⟩
    (simp only [go_sem, Nat.reduceAdd, Nat.reduceMul, Int.reduceToNat, Nat.reduceLeDiff, Int.reduceLE, Int.reduceLT, ↓reduceIte, Int.reduceBEq, Int.reduceBNe, Int.reduceAdd, Int.reduceSub, Int.reduceMul, lks_length]; try refine okTr_and rfl ?_)
    by_cases hlt : k < l.length
    · have q1 : decide ((k : Int) < (l.length : Int)) = true := by simp; omega
      have ek := i64_succ k (by omega)
      have g := lks_get l k hlt
      have g2 := lks_get m k (by omega)
      have hbk := hb _ (lk_mem l k hlt)
      (simp only [go_sem, Nat.reduceAdd, Nat.reduceMul, Int.reduceToNat, Nat.reduceLeDiff, Int.reduceLE, Int.reduceLT, ↓reduceIte, Int.reduceBEq, Int.reduceBNe, Int.reduceAdd, Int.reduceSub, Int.reduceMul, q1, g, g2, lks_length, Int.toNat_natCast]; try refine okTr_and rfl ?_)
      (repeat ((with_reducible refine And.intro ?_ ?_); (· exact sd)))
      refine CallK.p (ref23_One (l.getD k lk0) (m.getD k lk0) hbk) ?_
      by_cases he : l.getD k lk0 = m.getD k lk0
      · have q2 : decide (l.getD k lk0 = m.getD k lk0) = true := by simpa using he
        (simp only [go_sem, Nat.reduceAdd, Nat.reduceMul, Int.reduceToNat, Nat.reduceLeDiff, Int.reduceLE, Int.reduceLT, ↓reduceIte, Int.reduceBEq, Int.reduceBNe, Int.reduceAdd, Int.reduceSub, Int.reduceMul, q2, ek]; try refine okTr_and rfl ?_)
        (repeat ((with_reducible refine And.intro ?_ ?_); (· exact sd)))
        exact ⟨k + 1, ⟨hlt, fun i hi => by
          rcases Nat.lt_or_ge i k with h | h
          · exact hall i h
          · obtain rfl : i = k := by omega
            exact he⟩, by omega, Wk.to (by simp) (by simp [leT])⟩
      · have q2 : decide (l.getD k lk0 = m.getD k lk0) = false := by simpa using he
        have e : sameL l m = false := by unfold sameL; simp only [decide_eq_false_iff_not]; rintro rfl; exact he rfl
        (simp only [go_sem, Nat.reduceAdd, Nat.reduceMul, Int.reduceToNat, Nat.reduceLeDiff, Int.reduceLE, Int.reduceLT, ↓reduceIte, Int.reduceBEq, Int.reduceBNe, Int.reduceAdd, Int.reduceSub, Int.reduceMul, q2]; try refine okTr_and rfl ?_)
        (repeat ((with_reducible refine And.intro ?_ ?_); (· exact sd)))
        ((refine FinK.finB r192 [] ?_ ?_); (· first | with_reducible rfl | (simp [e]; done) | rfl); (· simp [resAL, resA1, loadA, oneOr, e]))
    · have q1 : decide ((k : Int) < (l.length : Int)) = false := by simp; omega
      have e : sameL l m = true := by
        unfold sameL
        simp only [decide_eq_true_eq]
        refine List.ext_getElem hlen fun i h1 h2 => ?_
        have := hall i (by omega)
        simpa [h1, h2] using this
      (simp only [go_sem, Nat.reduceAdd, Nat.reduceMul, Int.reduceToNat, Nat.reduceLeDiff, Int.reduceLE, Int.reduceLT, ↓reduceIte, Int.reduceBEq, Int.reduceBNe, Int.reduceAdd, Int.reduceSub, Int.reduceMul, q1]; try refine okTr_and rfl ?_)
      ((refine FinK.finB r192 [] ?_ ?_); (· first | with_reducible rfl | (simp [e]; done) | rfl); (· simp [resAL, resA1, loadA, oneOr, e]))
  · have q0 : ((l.length : Int) != (m.length : Int)) = true := by simp; omega
    have e : sameL l m = false := by unfold sameL; simp only [decide_eq_false_iff_not]; rintro rfl; exact hlen rfl
    (simp only [go_sem, Nat.reduceAdd, Nat.reduceMul, Int.reduceToNat, Nat.reduceLeDiff, Int.reduceLE, Int.reduceLT, ↓reduceIte, Int.reduceBEq, Int.reduceBNe, Int.reduceAdd, Int.reduceSub, Int.reduceMul, q0]; try refine okTr_and rfl ?_)
    ((refine FinK.finB r192 [] ?_ ?_); (· first | with_reducible rfl | (simp [e]; done) | rfl); (· simp [resAL, resA1, loadA, oneOr, e]))
theorem ref23_Same (l m : List Lk) (hm : Smalls l) : Ct Tryz.prog 192 [slL l, slL m] [] (fun _ => bA (sameL l m)) [] (fun _ => []) := (ref23_Same0 l m hm).toCt cl cl
def longL (l : List Lk) : Bool := (l.take 50).any (fun x => decide (50 < (x.bk.length : Int))) || decide (50 < (l.length : Int))
theorem longL_no {l : List Lk} (h : longL l = false) : l.length ≤ 50 ∧ ∀ x ∈ l, x.bk.length ≤ 50 := by
  unfold longL at h
  rw [Bool.or_eq_false_iff] at h
  have h1 : l.length ≤ 50 := by have := h.2; simp only [decide_eq_false_iff_not] at this; omega
  refine ⟨h1, fun x hx => ?_⟩
  have h2 := h.1
  rw [List.take_of_length_le h1, List.any_eq_false] at h2
  have := h2 x hx
  simp only [decide_eq_true_eq] at this
  omega
theorem longL_smalls {l : List Lk} (h : longL l = false) : Smalls l := by
  obtain ⟨a, b⟩ := longL_no h
  exact ⟨by omega, fun x hx => by have := b x hx; omega⟩
theorem law23_Long0 (l : List Lk) : Does Tryz.prog 193 [slL l] [] (bA (longL l)) [] := by
  refine Does.runA Tryz.func193 b193 n193 Tryz.ntmps193 ?_; simp only [c193, go_sem, Nat.reduceAdd, Nat.reduceMul, Int.reduceToNat, Nat.reduceLeDiff, Int.reduceLE, Int.reduceLT, ↓reduceIte, Int.reduceBEq, Int.reduceBNe, Int.reduceAdd, Int.reduceSub, Int.reduceMul]; try refine okTr_and rfl ?_
  refine loop_of (α := Nat) (fun k => [slL l, .any, .any, iA k, .any, .any, .any, .any, .any, .any, .any, .any, .any, .any, .any, .any, .any, .any, .any, .any, .any, .any, .any, .any]) (fun _ => []) (fun k => k ≤ l.length ∧ k ≤ 50 ∧ ∀ i, i < k → (l.getD i lk0).bk.length ≤ 50) (fun k => l.length - k) 0 ⟨by simp, by simp, by intro i hi; omega⟩ (Wk.to (by simp) (by simp [leT])) ?_
  rintro k ⟨hk, hk2, hall⟩
  have hno : k = l.length ∨ k = 50 → (l.take 50).any (fun x => decide (50 < (x.bk.length : Int))) = false := fun hor => by
    rw [List.any_eq_false]
    intro t ht
    obtain ⟨i, hi, rfl⟩ := List.getElem_of_mem ht
    simp only [List.length_take] at hi
    have := hall i (by omega)
    have e : l.getD i lk0 = l[i]'(by omega) := by simp [show i < l.length by omega]
    rw [e] at this
    simp only [List.getElem_take, decide_eq_true_eq]
    omega
  (simp only [go_sem, Nat.reduceAdd, Nat.reduceMul, Int.reduceToNat, Nat.reduceLeDiff, Int.reduceLE, Int.reduceLT, ↓reduceIte, Int.reduceBEq, Int.reduceBNe, Int.reduceAdd, Int.reduceSub, Int.reduceMul, lks_length]; try refine okTr_and rfl ?_)
  by_cases hlt : k < l.length
  · have q1 : decide ((k : Int) < l.length) = true := by simp; omega
    by_cases h50 : k < 50
    · have q2 : decide ((k : Int) < 50) = true := by simp; omega
      have g := lks_get l k hlt
      have ei := i64_succ k (by omega)
      (simp only [go_sem, Nat.reduceAdd, Nat.reduceMul, Int.reduceToNat, Nat.reduceLeDiff, Int.reduceLE, Int.reduceLT, ↓reduceIte, Int.reduceBEq, Int.reduceBNe, Int.reduceAdd, Int.reduceSub, Int.reduceMul, q1, q2, g, lks_length, ints_length, Int.toNat_natCast]; try refine okTr_and rfl ?_)
      (repeat ((with_reducible refine And.intro ?_ ?_); (· exact sd)))
      by_cases c : 50 < ((l.getD k lk0).bk.length : Int)
      · have q3 : decide (50 < ((l.getD k lk0).bk.length : Int)) = true := by simpa using c
        have he : longL l = true := by
          unfold longL
          have : (l.take 50).any (fun x => decide (50 < (x.bk.length : Int))) = true := by
            rw [List.any_eq_true]
            refine ⟨l.getD k lk0, ?_, q3⟩
            have : (l.take 50)[k]? = some (l.getD k lk0) := by simp [h50, hlt]
            exact List.mem_of_getElem? this
          rw [this]; rfl
        (simp only [go_sem, Nat.reduceAdd, Nat.reduceMul, Int.reduceToNat, Nat.reduceLeDiff, Int.reduceLE, Int.reduceLT, ↓reduceIte, Int.reduceBEq, Int.reduceBNe, Int.reduceAdd, Int.reduceSub, Int.reduceMul, q3]; try refine okTr_and rfl ?_)
        ((refine FinK.finB r193 [] ?_ ?_); (· first | with_reducible rfl | (simp [he]; done) | rfl); (· simp [resAL, resA1, loadA, oneOr, he]))
      · have q3 : decide (50 < ((l.getD k lk0).bk.length : Int)) = false := by simpa using c
        (simp only [go_sem, Nat.reduceAdd, Nat.reduceMul, Int.reduceToNat, Nat.reduceLeDiff, Int.reduceLE, Int.reduceLT, ↓reduceIte, Int.reduceBEq, Int.reduceBNe, Int.reduceAdd, Int.reduceSub, Int.reduceMul, q3, ei]; try refine okTr_and rfl ?_)
        refine ⟨k + 1, ⟨hlt, h50, fun i hi => ?_⟩, by omega, Wk.to (by simp) (by simp [leT])⟩
        rcases Nat.lt_or_ge i k with h5 | h5
        · exact hall i h5
        · obtain rfl : i = k := by omega
          omega
    · have q2 : decide ((k : Int) < 50) = false := by simp; omega
      have he : longL l = decide (50 < (l.length : Int)) := by unfold longL; rw [hno (.inr (by omega))]; rfl
      (simp only [go_sem, Nat.reduceAdd, Nat.reduceMul, Int.reduceToNat, Nat.reduceLeDiff, Int.reduceLE, Int.reduceLT, ↓reduceIte, Int.reduceBEq, Int.reduceBNe, Int.reduceAdd, Int.reduceSub, Int.reduceMul, q1, q2, lks_length]; try refine okTr_and rfl ?_)
      ((refine FinK.finB r193 [] ?_ ?_); (· first | with_reducible rfl | (simp [he]; done) | rfl); (· simp [resAL, resA1, loadA, oneOr, he]))
  · have q1 : decide ((k : Int) < l.length) = false := by simp; omega
    have he : longL l = decide (50 < (l.length : Int)) := by unfold longL; rw [hno (.inl (by omega))]; rfl
    (simp only [go_sem, Nat.reduceAdd, Nat.reduceMul, Int.reduceToNat, Nat.reduceLeDiff, Int.reduceLE, Int.reduceLT, ↓reduceIte, Int.reduceBEq, Int.reduceBNe, Int.reduceAdd, Int.reduceSub, Int.reduceMul, q1, lks_length]; try refine okTr_and rfl ?_)
    ((refine FinK.finB r193 [] ?_ ?_); (· first | with_reducible rfl | (simp [he]; done) | rfl); (· simp [resAL, resA1, loadA, oneOr, he]))
theorem law23_Long (l : List Lk) : Ct Tryz.prog 193 [slL l] [] (fun _ => bA (longL l)) [] (fun _ => []) := (law23_Long0 l).toCt cl cl
end Go.Proofs.YtnfagphepkeedaaGreat
end
section
namespace Go.Proofs.YtnfagphepkeedaaGreat
open Go.RowKit

theorem Tryz.own : ownKnob Tryz.prog.godebug = none := by kernel_rfl
theorem Tryz.laidOut : laidOutB Tryz.prog = true := by kernel_rfl

end Go.Proofs.YtnfagphepkeedaaGreat
end
section
namespace Go.Proofs.YtnfagphepkeedaaGreat
open Go.RowKit Go.ChangeShapes Go.WideShapes Go.ChangeAt

/-- All cells of a world lie still. -/
def G0 (W : World) : Gh := ⟨fun b i => W.cell? ⟨b, i, none⟩, fun _ => none, fun _ _ => none⟩
theorem wd0 (W : World) : Wd (G0 W) [] W :=
  ⟨fun b i v h => h, fun i _ => ⟨rfl, fun _ => rfl⟩, fun i xs h => by simp at h, fun j k n h => by simp at h, fun i j b h => by simp [blk] at h⟩
theorem Does.top {P : Program} {f : FuncId} {args : List AV} (h : Does P f args [] (.lit (.bool true)) []) {W : World} {vs : Array Value} (hr : RepL (G0 W) args vs.toList) :
    Calls P f vs W fun r W' => r = .returned (.bool true) ∧ Below W.heap.size W W' := by
  refine (h.2 (G0 W) W vs (wd0 W) hr).mono fun r W' ⟨v, G', e, hv, hl⟩ => ?_
  cases hv
  exact ⟨e, hl.kept.below (fun i _ j => by simp [blk]) (Nat.le_refl _)⟩
theorem RdI.rep {k : IntKind} {W : World} {F : Nat → Prop} {v : Value} {l : List Int} (h : RdI k W F v l) : Rep (G0 W) (.sl .none 1 (ints k l)) v := by
  obtain ⟨A, c, rfl, hc, _, hA⟩ := h
  have hlen := ints_length k l
  obtain ⟨b, o, hb, hcell⟩ : ∃ b o, (0 < l.length → A = some ⟨b, o, none⟩) ∧ ∀ i, i < l.length → W.cell? ⟨b, o + i, none⟩ = some (.int k (l.getD i 0)) := by
    rcases Nat.eq_zero_or_pos l.length with h0 | h0
    · exact ⟨0, 0, fun h => by omega, fun i hi => by omega⟩
    · obtain ⟨b, o, h1, _, h2⟩ := hA h0
      exact ⟨b, o, fun _ => h1, h2⟩
  rw [← hlen]
  refine .sl (b := b) (o := o) (fun i _ => .int k (l.getD i 0)) (by rw [hlen]; exact hc) (fun h => hb (by rw [hlen] at h; exact h)) (fun i x hx => ?_) (fun i j hi hj => ?_) (fun _ _ _ _ => rfl) (fun i j x y hx hy => ?_) trivial
  · simp only [ints, List.getElem?_map, Option.map_eq_some_iff] at hx
    obtain ⟨z, _, rfl⟩ := hx; rfl
  · obtain rfl : j = 0 := by omega
    rw [hlen] at hi
    simpa [G0] using hcell i hi
  · simp only [ints, List.getElem?_map, Option.map_eq_some_iff] at hx
    obtain ⟨z, hz, rfl⟩ := hx
    simp only [AV.cells] at hy
    cases j with
    | zero =>
      simp at hy; subst hy
      have : l.getD i 0 = z := by simp [hz]
      rw [this]; exact .lit _
    | succ j => simp at hy
end Go.Proofs.YtnfagphepkeedaaGreat
end
section
namespace Go.Proofs.YtnfagphepkeedaaGreat
open Go.RowKit

end Go.Proofs.YtnfagphepkeedaaGreat
end
section
namespace Go.Proofs.YtnfagphepkeedaaGreat
open Go.RowKit

/-- An entry. -/
abbrev enA (e : En) : AV := .agg [slL e.lk, slA .u8 e.data]
def smallE (e : En) : Prop := Smalls e.lk ∧ e.data.length ≤ 100000000
theorem entry_Right0 (pos : Int) (e : En) (he : e.ok) (hm : smallE e) (p0 : 0 ≤ pos) (p1 : pos < 18446744073709551616) : Does Tryz.prog 147 [uA pos, enA e] [] (bA (rightE pos e)) [] := by
  refine Does.runA Tryz.func147 b147 n147 Tryz.ntmps147 ?_; simp only [c147, go_sem, Nat.reduceAdd, Nat.reduceMul, Int.reduceToNat, Nat.reduceLeDiff, Int.reduceLE, Int.reduceLT, ↓reduceIte, Int.reduceBEq, Int.reduceBNe, Int.reduceAdd, Int.reduceSub, Int.reduceMul]; try refine okTr_and rfl ?_
  refine CallK.p (link_Right pos e.lk he.lk hm.1 p0 p1) ?_
  by_cases hr : rightL pos e.lk = true
  · have h : rightE pos e = decide ((e.data.length : Int) ≤ 1048576) := by
      unfold rightE; rw [hr, Bool.true_and, Bool.eq_iff_iff, decide_eq_true_eq, decide_eq_true_eq]; omega
    (simp only [go_sem, Nat.reduceAdd, Nat.reduceMul, Int.reduceToNat, Nat.reduceLeDiff, Int.reduceLE, Int.reduceLT, ↓reduceIte, Int.reduceBEq, Int.reduceBNe, Int.reduceAdd, Int.reduceSub, Int.reduceMul, hr, ints_length, ← h]; try refine okTr_and rfl ?_)
    exact FinK.finA r147 []
  · have hr' : rightL pos e.lk = false := by simpa using hr
    have h : rightE pos e = false := by unfold rightE; rw [hr']; rfl
    (simp only [go_sem, Nat.reduceAdd, Nat.reduceMul, Int.reduceToNat, Nat.reduceLeDiff, Int.reduceLE, Int.reduceLT, ↓reduceIte, Int.reduceBEq, Int.reduceBNe, Int.reduceAdd, Int.reduceSub, Int.reduceMul, hr']; try refine okTr_and rfl ?_)
    ((refine FinK.finB r147 [] ?_ ?_); (· first | with_reducible rfl | (simp [h]; done) | rfl); (· simp [resAL, resA1, loadA, oneOr, h]))
theorem entry_Right (pos : Int) (e : En) (he : e.ok) (hm : smallE e) (p0 : 0 ≤ pos) (p1 : pos < 18446744073709551616) : Ct Tryz.prog 147 [uA pos, enA e] [] (fun _ => bA (rightE pos e)) [] (fun _ => []) := (entry_Right0 pos e he hm p0 p1).toCt cl cl
theorem ref24_Right0 (pos : Int) (e : En) (hm : smallE e) : Does Tryz.prog 141 [uA pos, enA e] [] (bA (rightE pos e)) [] := by
  refine Does.runA Tryz.func141 b141 n141 Tryz.ntmps141 ?_; simp only [c141, go_sem, Nat.reduceAdd, Nat.reduceMul, Int.reduceToNat, Nat.reduceLeDiff, Int.reduceLE, Int.reduceLT, ↓reduceIte, Int.reduceBEq, Int.reduceBNe, Int.reduceAdd, Int.reduceSub, Int.reduceMul]; try refine okTr_and rfl ?_
  refine CallK.p (ref23_Right pos e.lk hm.1) ?_
  by_cases hr : rightL pos e.lk = true
  · have h : rightE pos e = decide ((e.data.length : Int) ≤ 1048576) := by
      unfold rightE; rw [hr, Bool.true_and, Bool.eq_iff_iff, decide_eq_true_eq, decide_eq_true_eq]; omega
    (simp only [go_sem, Nat.reduceAdd, Nat.reduceMul, Int.reduceToNat, Nat.reduceLeDiff, Int.reduceLE, Int.reduceLT, ↓reduceIte, Int.reduceBEq, Int.reduceBNe, Int.reduceAdd, Int.reduceSub, Int.reduceMul, hr, ints_length, ← h]; try refine okTr_and rfl ?_)
    exact FinK.finA r141 []
  · have hr' : rightL pos e.lk = false := by simpa using hr
    have h : rightE pos e = false := by unfold rightE; rw [hr']; rfl
    (simp only [go_sem, Nat.reduceAdd, Nat.reduceMul, Int.reduceToNat, Nat.reduceLeDiff, Int.reduceLE, Int.reduceLT, ↓reduceIte, Int.reduceBEq, Int.reduceBNe, Int.reduceAdd, Int.reduceSub, Int.reduceMul, hr']; try refine okTr_and rfl ?_)
    ((refine FinK.finB r141 [] ?_ ?_); (· first | with_reducible rfl | (simp [h]; done) | rfl); (· simp [resAL, resA1, loadA, oneOr, h]))
theorem ref24_Right (pos : Int) (e : En) (hm : smallE e) : Ct Tryz.prog 141 [uA pos, enA e] [] (fun _ => bA (rightE pos e)) [] (fun _ => []) := (ref24_Right0 pos e hm).toCt cl cl
def sizeE (pos : Int) (e : En) : Int := if rightE pos e = true then (headE pos e).length else 0
theorem entry_HeadSize0 (pos : Int) (e : En) (he : e.ok) (hm : smallE e) (p0 : 0 ≤ pos) (p1 : pos < 18446744073709551616) : Does Tryz.prog 135 [uA pos, enA e] [] (iA (sizeE pos e)) [] := by
  have hd := hm.2
  have eu := len_u64 e.data (by omega)
  refine Does.runA Tryz.func135 b135 n135 Tryz.ntmps135 ?_; simp only [c135, go_sem, Nat.reduceAdd, Nat.reduceMul, Int.reduceToNat, Nat.reduceLeDiff, Int.reduceLE, Int.reduceLT, ↓reduceIte, Int.reduceBEq, Int.reduceBNe, Int.reduceAdd, Int.reduceSub, Int.reduceMul]; try refine okTr_and rfl ?_
  refine CallK.p (entry_Right pos e he hm p0 p1) ?_
  by_cases hr : rightE pos e = true
  · have hrl := (rightE_iff.1 hr).1
    have hl := linksB_len hrl
    have hv := (vb_len (e.data.length : Int)).2
    have h1 : sizeL pos e.lk = ((linksB pos e.lk).length : Int) := by unfold sizeL; rw [if_pos hrl]
    have h2 : IntKind.i64.wrap (((linksB pos e.lk).length : Int) + (vb (e.data.length : Int)).length) = sizeE pos e := by
      unfold sizeE headE; rw [if_pos hr, List.length_append, IntWalk.i64_in _ (by omega)]; omega
    (simp only [go_sem, Nat.reduceAdd, Nat.reduceMul, Int.reduceToNat, Nat.reduceLeDiff, Int.reduceLE, Int.reduceLT, ↓reduceIte, Int.reduceBEq, Int.reduceBNe, Int.reduceAdd, Int.reduceSub, Int.reduceMul, hr]; try refine okTr_and rfl ?_)
    refine CallK.p (link_Size pos e.lk he.lk hm.1 p0 p1) ?_; (simp only [go_sem, Nat.reduceAdd, Nat.reduceMul, Int.reduceToNat, Nat.reduceLeDiff, Int.reduceLE, Int.reduceLT, ↓reduceIte, Int.reduceBEq, Int.reduceBNe, Int.reduceAdd, Int.reduceSub, Int.reduceMul, h1, ints_length, eu]; try refine okTr_and rfl ?_)
    refine CallK.p (varint_Size e.data.length (by omega) (by omega)) ?_; (simp only [go_sem, Nat.reduceAdd, Nat.reduceMul, Int.reduceToNat, Nat.reduceLeDiff, Int.reduceLE, Int.reduceLT, ↓reduceIte, Int.reduceBEq, Int.reduceBNe, Int.reduceAdd, Int.reduceSub, Int.reduceMul, h2]; try refine okTr_and rfl ?_)
    (repeat ((with_reducible refine And.intro ?_ ?_); (· exact sd)))
    exact FinK.finA r135 []
  · have hr' : rightE pos e = false := by simpa using hr
    have h2 : sizeE pos e = 0 := by unfold sizeE; rw [if_neg hr]
    (simp only [go_sem, Nat.reduceAdd, Nat.reduceMul, Int.reduceToNat, Nat.reduceLeDiff, Int.reduceLE, Int.reduceLT, ↓reduceIte, Int.reduceBEq, Int.reduceBNe, Int.reduceAdd, Int.reduceSub, Int.reduceMul, hr']; try refine okTr_and rfl ?_)
    ((refine FinK.finB r135 [] ?_ ?_); (· first | with_reducible rfl | (simp [h2]; done) | rfl); (· simp [resAL, resA1, loadA, oneOr, h2]))
theorem entry_HeadSize (pos : Int) (e : En) (he : e.ok) (hm : smallE e) (p0 : 0 ≤ pos) (p1 : pos < 18446744073709551616) : Ct Tryz.prog 135 [uA pos, enA e] [] (fun _ => iA (sizeE pos e)) [] (fun _ => []) := (entry_HeadSize0 pos e he hm p0 p1).toCt cl cl
def sameE (a b : En) : Bool := sameL a.lk b.lk && sameB a.data b.data
theorem ref24_Same0 (a b : En) (hm : Smalls a.lk) (ha : Bys a.data) (hb : Bys b.data) : Does Tryz.prog 180 [enA a, enA b] [] (bA (sameE a b)) [] := by
  refine Does.runA Tryz.func180 b180 n180 Tryz.ntmps180 ?_; simp only [c180, go_sem, Nat.reduceAdd, Nat.reduceMul, Int.reduceToNat, Nat.reduceLeDiff, Int.reduceLE, Int.reduceLT, ↓reduceIte, Int.reduceBEq, Int.reduceBNe, Int.reduceAdd, Int.reduceSub, Int.reduceMul]; try refine okTr_and rfl ?_
  refine CallK.p (ref23_Same a.lk b.lk hm) ?_
  by_cases h : sameL a.lk b.lk = true
  · have e : sameE a b = sameB a.data b.data := by unfold sameE; rw [h]; rfl
    (simp only [go_sem, Nat.reduceAdd, Nat.reduceMul, Int.reduceToNat, Nat.reduceLeDiff, Int.reduceLE, Int.reduceLT, ↓reduceIte, Int.reduceBEq, Int.reduceBNe, Int.reduceAdd, Int.reduceSub, Int.reduceMul, h]; try refine okTr_and rfl ?_)
    refine CallK.p (ref02_Same a.data b.data ha hb) ?_; (simp only [go_sem, Nat.reduceAdd, Nat.reduceMul, Int.reduceToNat, Nat.reduceLeDiff, Int.reduceLE, Int.reduceLT, ↓reduceIte, Int.reduceBEq, Int.reduceBNe, Int.reduceAdd, Int.reduceSub, Int.reduceMul]; try refine okTr_and rfl ?_)
    ((refine FinK.finB r180 [] ?_ ?_); (· first | with_reducible rfl | (simp [e]; done) | rfl); (· simp [resAL, resA1, loadA, oneOr, e]))
  · have h' : sameL a.lk b.lk = false := by simpa using h
    have e : sameE a b = false := by unfold sameE; rw [h']; rfl
    (simp only [go_sem, Nat.reduceAdd, Nat.reduceMul, Int.reduceToNat, Nat.reduceLeDiff, Int.reduceLE, Int.reduceLT, ↓reduceIte, Int.reduceBEq, Int.reduceBNe, Int.reduceAdd, Int.reduceSub, Int.reduceMul, h']; try refine okTr_and rfl ?_)
    ((refine FinK.finB r180 [] ?_ ?_); (· first | with_reducible rfl | (simp [e]; done) | rfl); (· simp [resAL, resA1, loadA, oneOr, e]))
theorem ref24_Same (a b : En) (hm : Smalls a.lk) (ha : Bys a.data) (hb : Bys b.data) : Ct Tryz.prog 180 [enA a, enA b] [] (fun _ => bA (sameE a b)) [] (fun _ => []) := (ref24_Same0 a b hm ha hb).toCt cl cl
def longE (e : En) : Bool := longL e.lk || decide (500 < (e.data.length : Int))
theorem longE_no {e : En} (h : longE e = false) : smallE e ∧ e.data.length ≤ 500 := by
  unfold longE at h
  rw [Bool.or_eq_false_iff] at h
  have := h.2
  simp only [decide_eq_false_iff_not] at this
  exact ⟨⟨longL_smalls h.1, by omega⟩, by omega⟩
theorem law24_Long0 (e : En) : Does Tryz.prog 189 [enA e] [] (bA (longE e)) [] := by
  refine Does.runA Tryz.func189 b189 n189 Tryz.ntmps189 ?_; simp only [c189, go_sem, Nat.reduceAdd, Nat.reduceMul, Int.reduceToNat, Nat.reduceLeDiff, Int.reduceLE, Int.reduceLT, ↓reduceIte, Int.reduceBEq, Int.reduceBNe, Int.reduceAdd, Int.reduceSub, Int.reduceMul]; try refine okTr_and rfl ?_
  refine CallK.p (law23_Long e.lk) ?_
  by_cases h : longL e.lk = true
  · have he : longE e = true := by unfold longE; rw [h]; rfl
    (simp only [go_sem, Nat.reduceAdd, Nat.reduceMul, Int.reduceToNat, Nat.reduceLeDiff, Int.reduceLE, Int.reduceLT, ↓reduceIte, Int.reduceBEq, Int.reduceBNe, Int.reduceAdd, Int.reduceSub, Int.reduceMul, h]; try refine okTr_and rfl ?_)
    ((refine FinK.finB r189 [] ?_ ?_); (· first | with_reducible rfl | (simp [he]; done) | rfl); (· simp [resAL, resA1, loadA, oneOr, he]))
  · have h' : longL e.lk = false := by simpa using h
    have he : decide (500 < (e.data.length : Int)) = longE e := by unfold longE; rw [h']; rfl
    (simp only [go_sem, Nat.reduceAdd, Nat.reduceMul, Int.reduceToNat, Nat.reduceLeDiff, Int.reduceLE, Int.reduceLT, ↓reduceIte, Int.reduceBEq, Int.reduceBNe, Int.reduceAdd, Int.reduceSub, Int.reduceMul, h', ints_length, he]; try refine okTr_and rfl ?_)
    exact FinK.finA r189 []
theorem law24_Long (e : En) : Ct Tryz.prog 189 [enA e] [] (fun _ => bA (longE e)) [] (fun _ => []) := (law24_Long0 e).toCt cl cl
end Go.Proofs.YtnfagphepkeedaaGreat
end
section
namespace Go.Proofs.YtnfagphepkeedaaGreat
open Go.RowKit

def ens (l : List En) : List AV := l.map enA
abbrev slE (l : List En) : AV := .sl .none 2 (ens l)
theorem ens_length (l : List En) : (ens l).length = l.length := by simp [ens]
theorem ens_get (l : List En) (k : Nat) (h : k < l.length) : (ens l).getD k .any = enA (l.getD k en0) := by simp [ens, h]
@[simp] theorem ren_ens (ρ : Nat → Nat) (l : List En) : (ens l).map (fun x => x.ren ρ) = ens l := by
  simp [ens, Function.comp_def, ixs_z, ren_ints, ren_lks]
def manyE (l : List En) : Bool := decide (30 < l.length) || (l.take 30).any longE
theorem manyE_no {l : List En} (h : manyE l = false) : l.length ≤ 30 ∧ ∀ e ∈ l, longE e = false := by
  unfold manyE at h
  rw [Bool.or_eq_false_iff] at h
  have h1 : l.length ≤ 30 := by have := h.1; simp only [decide_eq_false_iff_not] at this; omega
  refine ⟨h1, fun e he => ?_⟩
  have h2 := h.2
  rw [List.take_of_length_le h1, List.any_eq_false] at h2
  simpa using h2 e he
theorem law24_Many0 (l : List En) : Does Tryz.prog 174 [slE l] [] (bA (manyE l)) [] := by
  refine Does.runA Tryz.func174 b174 n174 Tryz.ntmps174 ?_; simp only [c174, go_sem, Nat.reduceAdd, Nat.reduceMul, Int.reduceToNat, Nat.reduceLeDiff, Int.reduceLE, Int.reduceLT, ↓reduceIte, Int.reduceBEq, Int.reduceBNe, Int.reduceAdd, Int.reduceSub, Int.reduceMul]; try refine okTr_and rfl ?_
  refine loop_of (α := Nat) (fun k => [slE l, .any, bA false, iA k, .any, .any, .any, .any, .any, .any, .any, .any, .any, .any, .any, .any, .any, .any, .any, .any, .any, .any]) (fun _ => []) (fun k => k ≤ l.length ∧ k ≤ 30 ∧ ∀ i, i < k → longE (l.getD i en0) = false) (fun k => l.length - k) 0 ⟨by simp, by simp, fun i hi => by omega⟩ (Wk.to (by simp) (by simp [leT])) ?_
  rintro k ⟨hk, h30, hall⟩
  (simp only [go_sem, Nat.reduceAdd, Nat.reduceMul, Int.reduceToNat, Nat.reduceLeDiff, Int.reduceLE, Int.reduceLT, ↓reduceIte, Int.reduceBEq, Int.reduceBNe, Int.reduceAdd, Int.reduceSub, Int.reduceMul, ens_length]; try refine okTr_and rfl ?_)
  by_cases hlt : k < l.length
  · have q1 : decide ((k : Int) < (l.length : Int)) = true := decide_eq_true (by omega)
    by_cases h3 : k < 30
    · have q2 : decide ((k : Int) < 30) = true := decide_eq_true (by omega)
      have ek := i64_succ k (by omega)
      have g := ens_get l k hlt
      (simp only [go_sem, Nat.reduceAdd, Nat.reduceMul, Int.reduceToNat, Nat.reduceLeDiff, Int.reduceLE, Int.reduceLT, ↓reduceIte, Int.reduceBEq, Int.reduceBNe, Int.reduceAdd, Int.reduceSub, Int.reduceMul, q1, q2, g, ens_length, Int.toNat_natCast]; try refine okTr_and rfl ?_)
      (repeat ((with_reducible refine And.intro ?_ ?_); (· exact sd)))
      refine CallK.p (law24_Long (l.getD k en0)) ?_
      cases hL : longE (l.getD k en0) with
      | true =>
        have e : manyE l = true := by
          unfold manyE
          rw [Bool.or_eq_true, List.any_eq_true]
          refine .inr ⟨l.getD k en0, ?_, hL⟩
          rw [List.mem_take_iff_getElem]
          exact ⟨k, by omega, by simp [hlt]⟩
        (simp only [go_sem, Nat.reduceAdd, Nat.reduceMul, Int.reduceToNat, Nat.reduceLeDiff, Int.reduceLE, Int.reduceLT, ↓reduceIte, Int.reduceBEq, Int.reduceBNe, Int.reduceAdd, Int.reduceSub, Int.reduceMul, hL]; try refine okTr_and rfl ?_)
        ((refine FinK.finB r174 [] ?_ ?_); (· first | with_reducible rfl | (simp [e]; done) | rfl); (· simp [resAL, resA1, loadA, oneOr, e]))
      | false =>
        (simp only [go_sem, Nat.reduceAdd, Nat.reduceMul, Int.reduceToNat, Nat.reduceLeDiff, Int.reduceLE, Int.reduceLT, ↓reduceIte, Int.reduceBEq, Int.reduceBNe, Int.reduceAdd, Int.reduceSub, Int.reduceMul, hL, ek]; try refine okTr_and rfl ?_)
        exact ⟨k + 1, ⟨hlt, h3, fun i hi => by
          rcases Nat.lt_or_ge i k with h | h
          · exact hall i h
          · obtain rfl : i = k := by omega
            exact hL⟩, by omega, Wk.to (by simp) (by simp [leT])⟩
    · have q2 : decide ((k : Int) < 30) = false := decide_eq_false (by omega)
      have e : manyE l = true := by unfold manyE; rw [decide_eq_true (by omega)]; rfl
      have q3 : decide (30 < (l.length : Int)) = true := decide_eq_true (by omega)
      (simp only [go_sem, Nat.reduceAdd, Nat.reduceMul, Int.reduceToNat, Nat.reduceLeDiff, Int.reduceLE, Int.reduceLT, ↓reduceIte, Int.reduceBEq, Int.reduceBNe, Int.reduceAdd, Int.reduceSub, Int.reduceMul, q1, q2, ens_length, q3]; try refine okTr_and rfl ?_)
      ((refine FinK.finB r174 [] ?_ ?_); (· first | with_reducible rfl | (simp [e]; done) | rfl); (· simp [resAL, resA1, loadA, oneOr, e]))
  · have q1 : decide ((k : Int) < (l.length : Int)) = false := decide_eq_false (by omega)
    have q3 : decide (30 < (l.length : Int)) = false := decide_eq_false (by omega)
    have e : manyE l = false := by
      unfold manyE
      rw [decide_eq_false (by omega), Bool.false_or, List.any_eq_false]
      intro x hx
      obtain ⟨i, hi, rfl⟩ := List.mem_iff_getElem.1 (List.mem_of_mem_take hx)
      have := hall i (by omega)
      simpa [hi] using this
    (simp only [go_sem, Nat.reduceAdd, Nat.reduceMul, Int.reduceToNat, Nat.reduceLeDiff, Int.reduceLE, Int.reduceLT, ↓reduceIte, Int.reduceBEq, Int.reduceBNe, Int.reduceAdd, Int.reduceSub, Int.reduceMul, q1, ens_length, q3]; try refine okTr_and rfl ?_)
    ((refine FinK.finB r174 [] ?_ ?_); (· first | with_reducible rfl | (simp [e]; done) | rfl); (· simp [resAL, resA1, loadA, oneOr, e]))
theorem law24_Many (l : List En) : Ct Tryz.prog 174 [slE l] [] (fun _ => bA (manyE l)) [] (fun _ => []) := (law24_Many0 l).toCt cl cl
theorem take_joinE (l : List En) (k : Nat) (h : k < l.length) : joinE (l.take k) ++ (l.getD k en0).data = joinE (l.take (k + 1)) := by
  have : l.take (k + 1) = l.take k ++ [l.getD k en0] := by
    rw [List.take_add_one]
    simp [h]
  rw [this, joinE_snoc]
theorem joinE_take_le (l : List En) (k : Nat) : (joinE (l.take k)).length ≤ (joinE l).length := by
  have e : joinE l = joinE (l.take k) ++ joinE (l.drop k) := by unfold joinE; rw [← List.flatMap_append, List.take_append_drop]
  rw [e, List.length_append]; omega
theorem entry_Total0 (l : List En) (hl : l.length ≤ 1000000) (hn : (joinE l).length ≤ 140737488355328) : Does Tryz.prog 146 [slE l] [] (iA (joinE l).length) [] := by
  refine Does.runA Tryz.func146 b146 n146 Tryz.ntmps146 ?_; simp only [c146, go_sem, Nat.reduceAdd, Nat.reduceMul, Int.reduceToNat, Nat.reduceLeDiff, Int.reduceLE, Int.reduceLT, ↓reduceIte, Int.reduceBEq, Int.reduceBNe, Int.reduceAdd, Int.reduceSub, Int.reduceMul, ens_length]; try refine okTr_and rfl ?_
  refine loop_of (α := Nat) (fun k => [.any, .any, .any, iA (joinE (l.take k)).length, .any, .any, slE l, iA l.length, iA k, .any, .any, .any, .any, .any, .any, .any, .any, .any, .any]) (fun _ => []) (fun k => k ≤ l.length) (fun k => l.length - k) 0 (by simp) (Wk.to (by simp) (by simp [leT, joinE])) ?_
  intro k hk
  (simp only [go_sem, Nat.reduceAdd, Nat.reduceMul, Int.reduceToNat, Nat.reduceLeDiff, Int.reduceLE, Int.reduceLT, ↓reduceIte, Int.reduceBEq, Int.reduceBNe, Int.reduceAdd, Int.reduceSub, Int.reduceMul]; try refine okTr_and rfl ?_)
  by_cases hlt : k < l.length
  · have q1 : decide ((k : Int) < (l.length : Int)) = true := decide_eq_true (by omega)
    have ek := i64_succ k (by omega)
    have g := ens_get l k hlt
    have ht := take_joinE l k hlt
    have hle := joinE_take_le l (k + 1)
    have hlen := congrArg List.length ht
    rw [List.length_append] at hlen
    have w : IntKind.i64.wrap (((joinE (l.take k)).length : Int) + ((l.getD k en0).data.length : Int)) = ((joinE (l.take (k + 1))).length : Int) := by rw [IntWalk.i64_in _ (by omega)]; omega
    (simp only [go_sem, Nat.reduceAdd, Nat.reduceMul, Int.reduceToNat, Nat.reduceLeDiff, Int.reduceLE, Int.reduceLT, ↓reduceIte, Int.reduceBEq, Int.reduceBNe, Int.reduceAdd, Int.reduceSub, Int.reduceMul, q1, g, ens_length, ints_length, Int.toNat_natCast, w, ek]; try refine okTr_and rfl ?_)
    (repeat ((with_reducible refine And.intro ?_ ?_); (· exact sd)))
    exact ⟨k + 1, hlt, by omega, Wk.sel [] (by simp) rfl (by simp) rfl (by simp) (by simp [selT, ixs_z, ren_ens])⟩
  · have q1 : decide ((k : Int) < (l.length : Int)) = false := decide_eq_false (by omega)
    have e : l.take k = l := List.take_of_length_le (by omega)
    (simp only [go_sem, Nat.reduceAdd, Nat.reduceMul, Int.reduceToNat, Nat.reduceLeDiff, Int.reduceLE, Int.reduceLT, ↓reduceIte, Int.reduceBEq, Int.reduceBNe, Int.reduceAdd, Int.reduceSub, Int.reduceMul, q1]; try refine okTr_and rfl ?_)
    ((refine FinK.finB r146 [] ?_ ?_); (· first | with_reducible rfl | (simp [e]; done) | rfl); (· simp [resAL, resA1, loadA, oneOr, e]))
theorem entry_Total (l : List En) (hl : l.length ≤ 1000000) (hn : (joinE l).length ≤ 140737488355328) : Ct Tryz.prog 146 [slE l] [] (fun _ => iA (joinE l).length) [] (fun _ => []) := (entry_Total0 l hl hn).toCt cl cl
theorem ref24_Join0 (l : List En) (hl : l.length ≤ 1000000) (hn : (joinE l).length ≤ 100000000) : Does Tryz.prog 140 [slE l] [] (ownA 0 (joinE l)) [.row 1 (joinE l).length] := by
  refine Does.runA Tryz.func140 b140 n140 Tryz.ntmps140 ?_; simp only [c140, go_sem, Nat.reduceAdd, Nat.reduceMul, Int.reduceToNat, Nat.reduceLeDiff, Int.reduceLE, Int.reduceLT, ↓reduceIte, Int.reduceBEq, Int.reduceBNe, Int.reduceAdd, Int.reduceSub, Int.reduceMul]; try refine okTr_and rfl ?_
  refine loop_of (α := Nat) (fun k => [slE l, .any, .any, ownA 0 (joinE (l.take k)), iA k, .any, .any, .any, .any, .any, .any, .any, .any, .any, .any, .any, .any, .any, .any]) (fun k => [.row 1 (joinE (l.take k)).length]) (fun k => k ≤ l.length) (fun k => l.length - k) 0 (by simp) ((Wk.row 3 1 rfl (.inr rfl) (Nat.le_refl _)).trans (Wk.to (by simp [joinE]) (by simp [leT, joinE, ints]))) ?_
  intro k hk
  (simp only [go_sem, Nat.reduceAdd, Nat.reduceMul, Int.reduceToNat, Nat.reduceLeDiff, Int.reduceLE, Int.reduceLT, ↓reduceIte, Int.reduceBEq, Int.reduceBNe, Int.reduceAdd, Int.reduceSub, Int.reduceMul, ens_length]; try refine okTr_and rfl ?_)
  by_cases hlt : k < l.length
  · have q1 : decide ((k : Int) < (l.length : Int)) = true := decide_eq_true (by omega)
    have ek := i64_succ k (by omega)
    have g := ens_get l k hlt
    have ht := take_joinE l k hlt
    have hle := joinE_take_le l (k + 1)
    (simp only [go_sem, Nat.reduceAdd, Nat.reduceMul, Int.reduceToNat, Nat.reduceLeDiff, Int.reduceLE, Int.reduceLT, ↓reduceIte, Int.reduceBEq, Int.reduceBNe, Int.reduceAdd, Int.reduceSub, Int.reduceMul, q1, g, ens_length, Int.toNat_natCast, ints_append, ints_length, ← List.length_append, ht, ek]; try refine okTr_and rfl ?_)
    (repeat ((with_reducible refine And.intro ?_ ?_); (· exact sd)))
    exact ⟨k + 1, hlt, by omega, Wk.to (by simp) (by simp [leT])⟩
  · have q1 : decide ((k : Int) < (l.length : Int)) = false := decide_eq_false (by omega)
    have e : l.take k = l := List.take_of_length_le (by omega)
    (simp only [go_sem, Nat.reduceAdd, Nat.reduceMul, Int.reduceToNat, Nat.reduceLeDiff, Int.reduceLE, Int.reduceLT, ↓reduceIte, Int.reduceBEq, Int.reduceBNe, Int.reduceAdd, Int.reduceSub, Int.reduceMul, q1, e]; try refine okTr_and rfl ?_)
    exact FinK.finA r140 [0]
theorem ref24_Join (l : List En) (hl : l.length ≤ 1000000) (hn : (joinE l).length ≤ 100000000) : Ct Tryz.prog 140 [slE l] [] (fun n => ownA n (joinE l)) [] (fun _ => [.row 1 (joinE l).length]) := Ct.n (ref24_Join0 l hl hn) cl cl clo
def allE (a b : List En) : Bool := decide (a.length = b.length) && (List.range a.length).all fun i => sameE (a.getD i en0) (b.getD i en0)
theorem ref24_All0 (a b : List En) (hl : a.length ≤ 1000000) (hm : ∀ e ∈ a, Smalls e.lk) (ha : Ens a) (hb : Ens b) : Does Tryz.prog 165 [slE a, slE b] [] (bA (allE a b)) [] := by
  by_cases hab : a.length = b.length
  · have q : ((a.length : Int) != (b.length : Int)) = false := by rw [hab]; simp
    refine Does.runA Tryz.func165 b165 n165 Tryz.ntmps165 ?_; simp only [c165, go_sem, Nat.reduceAdd, Nat.reduceMul, Int.reduceToNat, Nat.reduceLeDiff, Int.reduceLE, Int.reduceLT, ↓reduceIte, Int.reduceBEq, Int.reduceBNe, Int.reduceAdd, Int.reduceSub, Int.reduceMul, ens_length]; try refine okTr_and rfl ?_
    (simp only [go_sem, Nat.reduceAdd, Nat.reduceMul, Int.reduceToNat, Nat.reduceLeDiff, Int.reduceLE, Int.reduceLT, ↓reduceIte, Int.reduceBEq, Int.reduceBNe, Int.reduceAdd, Int.reduceSub, Int.reduceMul, q]; try refine okTr_and rfl ?_)
    refine loop_of (α := Nat) (fun k => [slE a, slE b, .any, .any, .any, iA k, .any, .any, .any, .any, .any, .any, .any, .any, .any, .any, .any, .any, .any, .any, .any, .any, .any, .any, .any, .any, .any]) (fun _ => []) (fun k => k ≤ a.length ∧ ∀ i, i < k → sameE (a.getD i en0) (b.getD i en0) = true) (fun k => a.length - k) 0 ⟨by simp, fun i hi => by omega⟩ (Wk.to (by simp) (by simp [leT])) ?_
    rintro k ⟨hk, hall⟩
    (simp only [go_sem, Nat.reduceAdd, Nat.reduceMul, Int.reduceToNat, Nat.reduceLeDiff, Int.reduceLE, Int.reduceLT, ↓reduceIte, Int.reduceBEq, Int.reduceBNe, Int.reduceAdd, Int.reduceSub, Int.reduceMul, ens_length]; try refine okTr_and rfl ?_)
    by_cases hlt : k < a.length
    · have q1 : decide ((k : Int) < (a.length : Int)) = true := decide_eq_true (by omega)
      have ek := i64_succ k (by omega)
      have g := ens_get a k hlt
      have g2 := ens_get b k (by omega)
      have ma : a.getD k en0 ∈ a := by simp [hlt]
      have mb : b.getD k en0 ∈ b := by rw [hab] at hlt; simp [hlt]
      (simp only [go_sem, Nat.reduceAdd, Nat.reduceMul, Int.reduceToNat, Nat.reduceLeDiff, Int.reduceLE, Int.reduceLT, ↓reduceIte, Int.reduceBEq, Int.reduceBNe, Int.reduceAdd, Int.reduceSub, Int.reduceMul, q1, g, g2, ens_length, Int.toNat_natCast]; try refine okTr_and rfl ?_)
      (repeat ((with_reducible refine And.intro ?_ ?_); (· exact sd)))
      refine CallK.p (ref24_Same (a.getD k en0) (b.getD k en0) (hm _ ma) (ha _ ma).data (hb _ mb).data) ?_
      cases hs : sameE (a.getD k en0) (b.getD k en0) with
      | true =>
        (simp only [go_sem, Nat.reduceAdd, Nat.reduceMul, Int.reduceToNat, Nat.reduceLeDiff, Int.reduceLE, Int.reduceLT, ↓reduceIte, Int.reduceBEq, Int.reduceBNe, Int.reduceAdd, Int.reduceSub, Int.reduceMul, hs, ek]; try refine okTr_and rfl ?_)
        exact ⟨k + 1, ⟨hlt, fun i hi => by
          rcases Nat.lt_or_ge i k with h | h
          · exact hall i h
          · obtain rfl : i = k := by omega
            exact hs⟩, by omega, Wk.to (by simp) (by simp [leT])⟩
      | false =>
        have e : allE a b = false := by
          cases hz : allE a b with
          | false => rfl
          | true =>
            unfold allE at hz
            rw [Bool.and_eq_true, List.all_eq_true] at hz
            have := hz.2 k (List.mem_range.2 hlt)
            rw [hs] at this; cases this
        (simp only [go_sem, Nat.reduceAdd, Nat.reduceMul, Int.reduceToNat, Nat.reduceLeDiff, Int.reduceLE, Int.reduceLT, ↓reduceIte, Int.reduceBEq, Int.reduceBNe, Int.reduceAdd, Int.reduceSub, Int.reduceMul, hs]; try refine okTr_and rfl ?_)
        ((refine FinK.finB r165 [] ?_ ?_); (· first | with_reducible rfl | (simp [e]; done) | rfl); (· simp [resAL, resA1, loadA, oneOr, e]))
    · have q1 : decide ((k : Int) < (a.length : Int)) = false := decide_eq_false (by omega)
      have e : allE a b = true := by
        unfold allE
        rw [decide_eq_true hab, Bool.true_and, List.all_eq_true]
        intro i hi
        have := List.mem_range.1 hi
        exact hall i (by omega)
      (simp only [go_sem, Nat.reduceAdd, Nat.reduceMul, Int.reduceToNat, Nat.reduceLeDiff, Int.reduceLE, Int.reduceLT, ↓reduceIte, Int.reduceBEq, Int.reduceBNe, Int.reduceAdd, Int.reduceSub, Int.reduceMul, q1]; try refine okTr_and rfl ?_)
      ((refine FinK.finB r165 [] ?_ ?_); (· first | with_reducible rfl | (simp [e]; done) | rfl); (· simp [resAL, resA1, loadA, oneOr, e]))
  · have q : ((a.length : Int) != (b.length : Int)) = true := by simp; omega
    have e : allE a b = false := by unfold allE; rw [decide_eq_false hab]; rfl
    refine Does.runA Tryz.func165 b165 n165 Tryz.ntmps165 ?_; simp only [c165, go_sem, Nat.reduceAdd, Nat.reduceMul, Int.reduceToNat, Nat.reduceLeDiff, Int.reduceLE, Int.reduceLT, ↓reduceIte, Int.reduceBEq, Int.reduceBNe, Int.reduceAdd, Int.reduceSub, Int.reduceMul, ens_length]; try refine okTr_and rfl ?_
    (simp only [go_sem, Nat.reduceAdd, Nat.reduceMul, Int.reduceToNat, Nat.reduceLeDiff, Int.reduceLE, Int.reduceLT, ↓reduceIte, Int.reduceBEq, Int.reduceBNe, Int.reduceAdd, Int.reduceSub, Int.reduceMul, q]; try refine okTr_and rfl ?_)
    ((refine FinK.finB r165 [] ?_ ?_); (· first | with_reducible rfl | (simp [e]; done) | rfl); (· simp [resAL, resA1, loadA, oneOr, e]))
theorem ref24_All (a b : List En) (hl : a.length ≤ 1000000) (hm : ∀ e ∈ a, Smalls e.lk) (ha : Ens a) (hb : Ens b) : Ct Tryz.prog 165 [slE a, slE b] [] (fun _ => bA (allE a b)) [] (fun _ => []) := (ref24_All0 a b hl hm ha hb).toCt cl cl
end Go.Proofs.YtnfagphepkeedaaGreat
end
section
namespace Go.Proofs.YtnfagphepkeedaaGreat
open Go.RowKit

end Go.Proofs.YtnfagphepkeedaaGreat
end
section
section
namespace Go.Proofs.YtnfagphepkeedaaGreat
open Go.RowKit

theorem epoch_Right0 (e : Int) : Does Tryz.prog 72 [uA e] [] (bA (epRight e)) [] := by
  refine Does.runA Tryz.func72 b72 n72 Tryz.ntmps72 ?_; simp only [c72, go_sem, Nat.reduceAdd, Nat.reduceMul, Int.reduceToNat, Nat.reduceLeDiff, Int.reduceLE, Int.reduceLT, ↓reduceIte, Int.reduceBEq, Int.reduceBNe, Int.reduceAdd, Int.reduceSub, Int.reduceMul]; try refine okTr_and rfl ?_
  by_cases h1 : 1 ≤ e
  · have q : decide (1 ≤ e) = true := by simpa using h1
    (simp only [go_sem, Nat.reduceAdd, Nat.reduceMul, Int.reduceToNat, Nat.reduceLeDiff, Int.reduceLE, Int.reduceLT, ↓reduceIte, Int.reduceBEq, Int.reduceBNe, Int.reduceAdd, Int.reduceSub, Int.reduceMul, q]; try refine okTr_and rfl ?_)
    ((refine FinK.finB r72 [] ?_ ?_); (· first | with_reducible rfl | (simp [epRight, q]; done) | rfl); (· simp [resAL, resA1, loadA, oneOr, epRight, q]))
  · have q : decide (1 ≤ e) = false := by simpa using h1
    (simp only [go_sem, Nat.reduceAdd, Nat.reduceMul, Int.reduceToNat, Nat.reduceLeDiff, Int.reduceLE, Int.reduceLT, ↓reduceIte, Int.reduceBEq, Int.reduceBNe, Int.reduceAdd, Int.reduceSub, Int.reduceMul, q]; try refine okTr_and rfl ?_)
    ((refine FinK.finB r72 [] ?_ ?_); (· first | with_reducible rfl | (simp [epRight, q]; done) | rfl); (· simp [resAL, resA1, loadA, oneOr, epRight, q]))
theorem epoch_Right (e : Int) : Ct Tryz.prog 72 [uA e] [] (fun _ => bA (epRight e)) [] (fun _ => []) := (epoch_Right0 e).toCt clo clo
theorem ref17_Right0 (e : Int) : Does Tryz.prog 76 [uA e] [] (bA (epRight e)) [] := by
  refine Does.runA Tryz.func76 b76 n76 Tryz.ntmps76 ?_; simp only [c76, go_sem, Nat.reduceAdd, Nat.reduceMul, Int.reduceToNat, Nat.reduceLeDiff, Int.reduceLE, Int.reduceLT, ↓reduceIte, Int.reduceBEq, Int.reduceBNe, Int.reduceAdd, Int.reduceSub, Int.reduceMul]; try refine okTr_and rfl ?_
  by_cases h1 : 0 < e
  · have q : decide (0 < e) = true := by simpa using h1
    have q2 : decide (e ≤ 4611686018427387903) = epRight e := by unfold epRight; rw [Bool.eq_iff_iff]; simp; omega
    (simp only [go_sem, Nat.reduceAdd, Nat.reduceMul, Int.reduceToNat, Nat.reduceLeDiff, Int.reduceLE, Int.reduceLT, ↓reduceIte, Int.reduceBEq, Int.reduceBNe, Int.reduceAdd, Int.reduceSub, Int.reduceMul, q, q2]; try refine okTr_and rfl ?_)
    exact FinK.finA r76 []
  · have q : decide (0 < e) = false := by simpa using h1
    have q2 : epRight e = false := by unfold epRight; simp; omega
    (simp only [go_sem, Nat.reduceAdd, Nat.reduceMul, Int.reduceToNat, Nat.reduceLeDiff, Int.reduceLE, Int.reduceLT, ↓reduceIte, Int.reduceBEq, Int.reduceBNe, Int.reduceAdd, Int.reduceSub, Int.reduceMul, q, q2]; try refine okTr_and rfl ?_)
    ((refine FinK.finB r76 [] ?_ ?_); (· first | with_reducible rfl | (simp [q2]; done) | rfl); (· simp [resAL, resA1, loadA, oneOr, q2]))
theorem ref17_Right (e : Int) : Ct Tryz.prog 76 [uA e] [] (fun _ => bA (epRight e)) [] (fun _ => []) := (ref17_Right0 e).toCt clo clo
theorem epoch_Pos0 (e : Int) : Does Tryz.prog 131 [uA e] [] (bA (epPos e)) [] := by
  refine Does.runA Tryz.func131 b131 n131 Tryz.ntmps131 ?_; simp only [c131, go_sem, Nat.reduceAdd, Nat.reduceMul, Int.reduceToNat, Nat.reduceLeDiff, Int.reduceLE, Int.reduceLT, ↓reduceIte, Int.reduceBEq, Int.reduceBNe, Int.reduceAdd, Int.reduceSub, Int.reduceMul]; try refine okTr_and rfl ?_
  ((refine FinK.finB r131 [] ?_ ?_); (· first | with_reducible rfl | (simp [epPos]; done) | rfl); (· simp [resAL, resA1, loadA, oneOr, epPos]))
theorem epoch_Pos (e : Int) : Ct Tryz.prog 131 [uA e] [] (fun _ => bA (epPos e)) [] (fun _ => []) := (epoch_Pos0 e).toCt clo clo
theorem ref17_Pos0 (e : Int) : Does Tryz.prog 132 [uA e] [] (bA (epPos e)) [] := by
  have q : decide (e ≤ 4611686018427387903) = epPos e := by unfold epPos; rw [Bool.eq_iff_iff]; simp; omega
  refine Does.runA Tryz.func132 b132 n132 Tryz.ntmps132 ?_; simp only [c132, go_sem, Nat.reduceAdd, Nat.reduceMul, Int.reduceToNat, Nat.reduceLeDiff, Int.reduceLE, Int.reduceLT, ↓reduceIte, Int.reduceBEq, Int.reduceBNe, Int.reduceAdd, Int.reduceSub, Int.reduceMul, q]; try refine okTr_and rfl ?_
  exact FinK.finA r132 []
theorem ref17_Pos (e : Int) : Ct Tryz.prog 132 [uA e] [] (fun _ => bA (epPos e)) [] (fun _ => []) := (ref17_Pos0 e).toCt clo clo
theorem fail_bad {s : RS} (h : ¬ s.code = 0) (c a : Int) : s.fail c a = s := by unfold RS.fail; rw [if_neg h]
theorem fail_good {s : RS} (h : s.code = 0) (a : Int) : (s.fail 3 a).good = false := by unfold RS.fail RS.good; rw [if_pos h]; simp [flt]
theorem epoch_read0 (f : FuncId) (ok : Int → Bool) (hf : ∀ x, Ct Tryz.prog f [uA x] [] (fun _ => bA (ok x)) [] (fun _ => [])) (s : RS) (hs : ROk s) : Does Tryz.prog 162 [.ref 0 0, .fn f [] []] [rdr s] (uA (s.epo ok).2) [rdr (s.epo ok).1] := by
  refine Does.runA Tryz.func162 b162 n162 Tryz.ntmps162 ?_; simp only [c162, go_sem, Nat.reduceAdd, Nat.reduceMul, Int.reduceToNat, Nat.reduceLeDiff, Int.reduceLE, Int.reduceLT, ↓reduceIte, Int.reduceBEq, Int.reduceBNe, Int.reduceAdd, Int.reduceSub, Int.reduceMul]; try refine okTr_and rfl ?_
  refine CallK.r1 (Reader_At s 0) rfl ?_
  (simp only [go_sem, Nat.reduceAdd, Nat.reduceMul, Int.reduceToNat, Nat.reduceLeDiff, Int.reduceLE, Int.reduceLT, ↓reduceIte, Int.reduceBEq, Int.reduceBNe, Int.reduceAdd, Int.reduceSub, Int.reduceMul]; try refine okTr_and rfl ?_)
  refine CallK.u1 (varint_Read s 0 hs.ok hs.bys) rfl ?_
  (simp only [go_sem, Nat.reduceAdd, Nat.reduceMul, Int.reduceToNat, Nat.reduceLeDiff, Int.reduceLE, Int.reduceLT, ↓reduceIte, Int.reduceBEq, Int.reduceBNe, Int.reduceAdd, Int.reduceSub, Int.reduceMul]; try refine okTr_and rfl ?_)
  refine CallK.p (hf s.vint.2) ?_
  (simp only [go_sem, Nat.reduceAdd, Nat.reduceMul, Int.reduceToNat, Nat.reduceLeDiff, Int.reduceLE, Int.reduceLT, ↓reduceIte, Int.reduceBEq, Int.reduceBNe, Int.reduceAdd, Int.reduceSub, Int.reduceMul]; try refine okTr_and rfl ?_)
  by_cases hc : s.vint.1.code = 0
  · by_cases ho : ok s.vint.2 = true
    · have hg : s.vint.1.good = true := by simp [RS.good, hc]
      (simp only [go_sem, Nat.reduceAdd, Nat.reduceMul, Int.reduceToNat, Nat.reduceLeDiff, Int.reduceLE, Int.reduceLT, ↓reduceIte, Int.reduceBEq, Int.reduceBNe, Int.reduceAdd, Int.reduceSub, Int.reduceMul, ho]; try refine okTr_and rfl ?_)
      refine CallK.r1 (Reader_Good _ 0) rfl ?_
      (simp only [go_sem, Nat.reduceAdd, Nat.reduceMul, Int.reduceToNat, Nat.reduceLeDiff, Int.reduceLE, Int.reduceLT, ↓reduceIte, Int.reduceBEq, Int.reduceBNe, Int.reduceAdd, Int.reduceSub, Int.reduceMul, hg]; try refine okTr_and rfl ?_)
      ((refine FinK.finB r162 [0] ?_ ?_); (· first | with_reducible rfl | (simp [RS.epo, hc, ho]; done) | rfl); (· simp [resAL, resA1, loadA, oneOr, RS.epo, hc, ho]))
    · have hg := fail_good hc s.at_
      have ho' : ok s.vint.2 = false := by simpa using ho
      (simp only [go_sem, Nat.reduceAdd, Nat.reduceMul, Int.reduceToNat, Nat.reduceLeDiff, Int.reduceLE, Int.reduceLT, ↓reduceIte, Int.reduceBEq, Int.reduceBNe, Int.reduceAdd, Int.reduceSub, Int.reduceMul, ho']; try refine okTr_and rfl ?_)
      refine CallK.u1 (Reader_Fail _ 3 _ 0) rfl ?_
      (simp only [go_sem, Nat.reduceAdd, Nat.reduceMul, Int.reduceToNat, Nat.reduceLeDiff, Int.reduceLE, Int.reduceLT, ↓reduceIte, Int.reduceBEq, Int.reduceBNe, Int.reduceAdd, Int.reduceSub, Int.reduceMul]; try refine okTr_and rfl ?_)
      refine CallK.r1 (Reader_Good _ 0) rfl ?_
      (simp only [go_sem, Nat.reduceAdd, Nat.reduceMul, Int.reduceToNat, Nat.reduceLeDiff, Int.reduceLE, Int.reduceLT, ↓reduceIte, Int.reduceBEq, Int.reduceBNe, Int.reduceAdd, Int.reduceSub, Int.reduceMul, hg]; try refine okTr_and rfl ?_)
      ((refine FinK.finB r162 [0] ?_ ?_); (· first | with_reducible rfl | (simp [RS.epo, hc, ho']; done) | rfl); (· simp [resAL, resA1, loadA, oneOr, RS.epo, hc, ho']))
  · have hg : s.vint.1.good = false := by simp [RS.good, hc]
    have hfl := fail_bad hc 3 s.at_
    refine cdK_split (fun h => ?_) (fun h => ?_)
    · (simp only [go_sem, Nat.reduceAdd, Nat.reduceMul, Int.reduceToNat, Nat.reduceLeDiff, Int.reduceLE, Int.reduceLT, ↓reduceIte, Int.reduceBEq, Int.reduceBNe, Int.reduceAdd, Int.reduceSub, Int.reduceMul]; try refine okTr_and rfl ?_)
      refine CallK.u1 (Reader_Fail _ 3 _ 0) rfl ?_
      (simp only [go_sem, Nat.reduceAdd, Nat.reduceMul, Int.reduceToNat, Nat.reduceLeDiff, Int.reduceLE, Int.reduceLT, ↓reduceIte, Int.reduceBEq, Int.reduceBNe, Int.reduceAdd, Int.reduceSub, Int.reduceMul]; try refine okTr_and rfl ?_)
      refine CallK.r1 (Reader_Good _ 0) rfl ?_
      (simp only [go_sem, Nat.reduceAdd, Nat.reduceMul, Int.reduceToNat, Nat.reduceLeDiff, Int.reduceLE, Int.reduceLT, ↓reduceIte, Int.reduceBEq, Int.reduceBNe, Int.reduceAdd, Int.reduceSub, Int.reduceMul, hfl, hg]; try refine okTr_and rfl ?_)
      ((refine FinK.finB r162 [0] ?_ ?_); (· first | with_reducible rfl | (simp [RS.epo, hc, hfl]; done) | rfl); (· simp [resAL, resA1, loadA, oneOr, RS.epo, hc, hfl]))
    · (simp only [go_sem, Nat.reduceAdd, Nat.reduceMul, Int.reduceToNat, Nat.reduceLeDiff, Int.reduceLE, Int.reduceLT, ↓reduceIte, Int.reduceBEq, Int.reduceBNe, Int.reduceAdd, Int.reduceSub, Int.reduceMul]; try refine okTr_and rfl ?_)
      refine CallK.r1 (Reader_Good _ 0) rfl ?_
      (simp only [go_sem, Nat.reduceAdd, Nat.reduceMul, Int.reduceToNat, Nat.reduceLeDiff, Int.reduceLE, Int.reduceLT, ↓reduceIte, Int.reduceBEq, Int.reduceBNe, Int.reduceAdd, Int.reduceSub, Int.reduceMul, hg]; try refine okTr_and rfl ?_)
      ((refine FinK.finB r162 [0] ?_ ?_); (· first | with_reducible rfl | (simp [RS.epo, hc]; done) | rfl); (· simp [resAL, resA1, loadA, oneOr, RS.epo, hc]))
theorem epoch_read (f : FuncId) (ok : Int → Bool) (hf : ∀ x, Ct Tryz.prog f [uA x] [] (fun _ => bA (ok x)) [] (fun _ => [])) (s : RS) (i : Nat) (hs : ROk s) : Ct Tryz.prog 162 [.ref i 0, .fn f [] []] [(i, rdr s)] (fun _ => uA (s.epo ok).2) [(i, rdr (s.epo ok).1)] (fun _ => []) := Ct.u1 (epoch_read0 f ok hf s hs) i clo (fun ρ => rdr_ren ρ s) (fun ρ => rdr_ren ρ _) (rdr_dead s) clo
theorem epoch_Read0 (s : RS) (hs : ROk s) : Does Tryz.prog 119 [.ref 0 0] [rdr s] (uA (s.epo epRight).2) [rdr (s.epo epRight).1] := by
  refine Does.runA Tryz.func119 b119 n119 Tryz.ntmps119 ?_; simp only [c119, go_sem, Nat.reduceAdd, Nat.reduceMul, Int.reduceToNat, Nat.reduceLeDiff, Int.reduceLE, Int.reduceLT, ↓reduceIte, Int.reduceBEq, Int.reduceBNe, Int.reduceAdd, Int.reduceSub, Int.reduceMul]; try refine okTr_and rfl ?_
  refine CallK.u1 (epoch_read _ epRight epoch_Right s 0 hs) rfl ?_
  (simp only [go_sem, Nat.reduceAdd, Nat.reduceMul, Int.reduceToNat, Nat.reduceLeDiff, Int.reduceLE, Int.reduceLT, ↓reduceIte, Int.reduceBEq, Int.reduceBNe, Int.reduceAdd, Int.reduceSub, Int.reduceMul]; try refine okTr_and rfl ?_)
  exact FinK.finA r119 [0]
theorem epoch_Read (s : RS) (i : Nat) (hs : ROk s) : Ct Tryz.prog 119 [.ref i 0] [(i, rdr s)] (fun _ => uA (s.epo epRight).2) [(i, rdr (s.epo epRight).1)] (fun _ => []) := Ct.u1 (epoch_Read0 s hs) i clo (fun ρ => rdr_ren ρ s) (fun ρ => rdr_ren ρ _) (rdr_dead s) clo
theorem epoch_ReadPos0 (s : RS) (hs : ROk s) : Does Tryz.prog 120 [.ref 0 0] [rdr s] (uA (s.epo epPos).2) [rdr (s.epo epPos).1] := by
  refine Does.runA Tryz.func120 b120 n120 Tryz.ntmps120 ?_; simp only [c120, go_sem, Nat.reduceAdd, Nat.reduceMul, Int.reduceToNat, Nat.reduceLeDiff, Int.reduceLE, Int.reduceLT, ↓reduceIte, Int.reduceBEq, Int.reduceBNe, Int.reduceAdd, Int.reduceSub, Int.reduceMul]; try refine okTr_and rfl ?_
  refine CallK.u1 (epoch_read _ epPos epoch_Pos s 0 hs) rfl ?_
  (simp only [go_sem, Nat.reduceAdd, Nat.reduceMul, Int.reduceToNat, Nat.reduceLeDiff, Int.reduceLE, Int.reduceLT, ↓reduceIte, Int.reduceBEq, Int.reduceBNe, Int.reduceAdd, Int.reduceSub, Int.reduceMul]; try refine okTr_and rfl ?_)
  exact FinK.finA r120 [0]
theorem epoch_ReadPos (s : RS) (i : Nat) (hs : ROk s) : Ct Tryz.prog 120 [.ref i 0] [(i, rdr s)] (fun _ => uA (s.epo epPos).2) [(i, rdr (s.epo epPos).1)] (fun _ => []) := Ct.u1 (epoch_ReadPos0 s hs) i clo (fun ρ => rdr_ren ρ s) (fun ρ => rdr_ren ρ _) (rdr_dead s) clo
end Go.Proofs.YtnfagphepkeedaaGreat
end
end
section
section
namespace Go.Proofs.YtnfagphepkeedaaGreat

structure Tk where
  lit : List Int
  off : Int
  len : Int
deriving DecidableEq
def Tk.run (t : Tk) : Bool := decide (t.off = 0 ∧ t.len = 0 ∧ 1 ≤ t.lit.length ∧ t.lit.length ≤ 1048576)
def Tk.copy (t : Tk) : Bool := decide (t.lit.length = 0 ∧ 1 ≤ t.off ∧ t.off ≤ 65536 ∧ 4 ≤ t.len ∧ t.len ≤ 1048576)
def Tk.right (t : Tk) : Bool := t.run || t.copy
def Tk.made (t : Tk) : Int := if t.run = true then t.lit.length else if t.copy = true then t.len else 0
/-- What a token in memory is: its bytes are bytes, its numbers fit. -/
structure Tk.ok (t : Tk) : Prop where
  lit : Bys t.lit
  off0 : -9223372036854775808 ≤ t.off
  off1 : t.off < 9223372036854775808
  len0 : -9223372036854775808 ≤ t.len
  len1 : t.len < 9223372036854775808
end Go.Proofs.YtnfagphepkeedaaGreat
end
end
section
namespace Go.Proofs.YtnfagphepkeedaaGreat

section
variable {β : Type} {F : Fmt β}
/-- Things read till nothing is left, or one can't be read. -/
def Fmt.all (F : Fmt β) : Nat → RS → List β → RS × List β
  | 0, s, acc => (s, acc)
  | n + 1, s, acc => if s.code = 0 ∧ 0 < s.left then (if (F.f s acc).1.code = 0 then F.all n (F.f s acc).1 (acc ++ [(F.f s acc).2]) else ((F.f s acc).1, [])) else (s, acc)
theorem left_ge {s : RS} (h : ROk s) : 0 ≤ s.left := by have := h.at1; unfold RS.left; omega
theorem all_done {n : Nat} {s : RS} {acc : List β} (h : ¬ (s.code = 0 ∧ 0 < s.left)) : F.all n s acc = (s, acc) := by
  cases n with
  | zero => rfl
  | succ n => rw [Fmt.all, if_neg h]
theorem all_more (hF : F.Ok) : ∀ (n m : Nat) (s : RS) (acc : List β), ROk s → Wf F.nx [] acc → s.left ≤ n → s.left ≤ m → F.all n s acc = F.all m s acc := by
  intro n
  induction n with
  | zero => intro m s acc h _ h1 h2; rw [all_done (n := m) (by omega)]; rfl
  | succ n ih =>
    intro m s acc h hw h1 h2
    by_cases hc : s.code = 0 ∧ 0 < s.left
    · obtain ⟨k, rfl⟩ : ∃ k, m = k + 1 := ⟨m - 1, by omega⟩
      rw [Fmt.all, Fmt.all, if_pos hc, if_pos hc]
      by_cases hn : (F.f s acc).1.code = 0
      · rw [if_pos hn, if_pos hn]
        obtain ⟨k1, k2⟩ := hF.keep s acc h hw
        obtain ⟨r1, r2, r3, r4⟩ := hF.read s acc h hw hn
        have hl : (F.f s acc).1.left < s.left := by unfold RS.left; rw [k2]; omega
        exact ih k _ _ k1 (wf_snoc.2 ⟨hw, by simpa using r2⟩) (by omega) (by omega)
      · rw [if_neg hn, if_neg hn]
    · rw [all_done hc, all_done hc]
/-- All that is left. -/
def Fmt.rest (F : Fmt β) (s : RS) (acc : List β) : RS × List β := F.all s.left.toNat s acc
theorem rest_step (hF : F.Ok) {s : RS} {acc : List β} (h : ROk s) (hw : Wf F.nx [] acc) (hc : s.code = 0) (hl : 0 < s.left) (hn : (F.f s acc).1.code = 0) : F.rest s acc = F.rest (F.f s acc).1 (acc ++ [(F.f s acc).2]) := by
  obtain ⟨k1, k2⟩ := hF.keep s acc h hw
  obtain ⟨r1, r2, r3, r4⟩ := hF.read s acc h hw hn
  have hl2 : (F.f s acc).1.left < s.left := by unfold RS.left; rw [k2]; omega
  have hge := left_ge k1
  unfold Fmt.rest
  obtain ⟨k, hk⟩ : ∃ k, s.left.toNat = k + 1 := ⟨s.left.toNat - 1, by omega⟩
  rw [hk, Fmt.all, if_pos ⟨hc, hl⟩, if_pos hn]
  exact all_more hF _ _ _ _ k1 (wf_snoc.2 ⟨hw, by simpa using r2⟩) (by omega) (by omega)
/-- What is borne at each round. -/
structure Fmt.Al (F : Fmt β) (s : RS) (a : RS × List β) : Prop where
  ok : ROk a.1
  l : a.1.l = s.l
  adv : (a.2.length : Int) ≤ a.1.at_
  code : a.1.code = 0
  wf : Wf F.nx [] a.2
  res : F.rest a.1 a.2 = F.rest s []
  byt : s.l.take a.1.at_.toNat = s.l.take s.at_.toNat ++ encs F.enc [] a.2
theorem Fmt.Al.start {s : RS} (h : ROk s) (hc : s.code = 0) : F.Al s (s, []) := ⟨h, rfl, by simpa using h.at0, hc, trivial, rfl, by simp [encs]⟩
theorem Fmt.Al.next {s t : RS} {acc : List β} (hF : F.Ok) (h : F.Al s (t, acc)) (hl : 0 < t.left) (hc : (F.f t acc).1.code = 0) : F.Al s ((F.f t acc).1, acc ++ [(F.f t acc).2]) ∧ (F.f t acc).1.left < t.left := by
  obtain ⟨h1, h2, h3, h4, h5, h6, h7⟩ := h
  simp only at h1 h2 h3 h4 h5 h6 h7
  obtain ⟨k1, k2⟩ := hF.keep t acc h1 h5
  obtain ⟨r1, r2, r3, r4⟩ := hF.read t acc h1 h5 hc
  refine ⟨⟨k1, k2.trans h2, by simp; omega, hc, wf_snoc.2 ⟨h5, by simpa using r2⟩, ?_, ?_⟩, by unfold RS.left; rw [k2]; omega⟩
  · rw [← h6]; exact (rest_step hF h1 h5 h4 hl hc).symm
  · rw [h2] at r4
    rw [r4, h7, encs_snoc]
    simp
theorem Fmt.Al.len {s t : RS} {acc : List β} (h : F.Al s (t, acc)) : acc.length ≤ s.l.length := by
  have h1 := h.ok.at1
  have h2 := h.l
  have h3 := h.adv
  simp only at h1 h2 h3
  rw [h2] at h1
  omega
end

end Go.Proofs.YtnfagphepkeedaaGreat
end
section
namespace Go.Proofs.YtnfagphepkeedaaGreat
open Go.RowKit

/-- A token, tokens. -/
abbrev tkA (t : Tk) : AV := .agg [slA .u8 t.lit, iA t.off, iA t.len]
def tks (l : List Tk) : List AV := l.map tkA
@[simp] theorem ren_tks (ρ : Nat → Nat) (l : List Tk) : (tks l).map (fun x => x.ren ρ) = tks l := by simp [tks, ixs_z]
@[simp] theorem ren_ints_t (ρ : Nat → Nat) (k : IntKind) (l : List Int) : (ints k l).map (fun x => x.ren ρ) = ints k l := ren_ints ρ k l
end Go.Proofs.YtnfagphepkeedaaGreat
end
section
namespace Go.Proofs.YtnfagphepkeedaaGreat
open Go.RowKit

end Go.Proofs.YtnfagphepkeedaaGreat
end
section
namespace Go.Proofs.YtnfagphepkeedaaGreat

end Go.Proofs.YtnfagphepkeedaaGreat
end
section
namespace Go.Proofs.YtnfagphepkeedaaGreat
open Go.RowKit

end Go.Proofs.YtnfagphepkeedaaGreat
end
section
namespace Go.Proofs.YtnfagphepkeedaaGreat
open Go.RowKit

end Go.Proofs.YtnfagphepkeedaaGreat
end
section
namespace Go.Proofs.YtnfagphepkeedaaGreat
open Go.RowKit

theorem bytes_Equal0 (l m : List Int) (hl : Bys l) (hm : Bys m) : Does Tryz.prog 80 [slA .u8 l, slA .u8 m] [] (bA (sameB l m)) [] := by
  refine Does.runA Tryz.func80 b80 n80 Tryz.ntmps80 ?_; simp only [c80, go_sem, Nat.reduceAdd, Nat.reduceMul, Int.reduceToNat, Nat.reduceLeDiff, Int.reduceLE, Int.reduceLT, ↓reduceIte, Int.reduceBEq, Int.reduceBNe, Int.reduceAdd, Int.reduceSub, Int.reduceMul, ints_u8, bytes_same hl hm]; try refine okTr_and rfl ?_
  exact FinK.finA r80 []
theorem bytes_Equal (l m : List Int) (hl : Bys l) (hm : Bys m) : Ct Tryz.prog 80 [slA .u8 l, slA .u8 m] [] (fun _ => bA (sameB l m)) [] (fun _ => []) := (bytes_Equal0 l m hl hm).toCt cl cl
end Go.Proofs.YtnfagphepkeedaaGreat
end
