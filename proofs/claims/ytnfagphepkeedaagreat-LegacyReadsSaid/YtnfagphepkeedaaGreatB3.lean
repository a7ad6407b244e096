/-
  Contracts of fault's functions and of the cursor's over abstract values. Contracts of the cursor's reading functions and of varint's. Contracts of varint's reading functions. Contracts of the pen's writer. Contracts of the reference's reader (a value), and of its numbers. Contracts of the reference's number readers, and of varint.Get.
  Contracts of zigzag's numbers and lists, and of its reference's. Contracts of the functions on rising lists: zigzag.Rises, steps, RisingSize, PutRising, and the reference's Rises. Contracts of zigzag.ReadRising and of its reference. Contracts of the reference's lists: Same, Bytes; zigzag.Put and Read; live of chapter 5.
  Contracts of chapter 6: bytes with their number, lists, fixed numbers. Contracts of chapter 6: lists; the reference's. Contracts of chapter 6: the reference's; fixed numbers written; live. Contracts of the pen's fixed numbers; live of chapter 6.
  Contracts of chapter 22: differences of falling lists. Contracts of chapter 22: falling lists read; the reference's; live.
  Contracts of chapter 23: which links are well-formed, how they are written.
  Contracts of chapter 23: links read, by the code and by the reference.
  Words over any program: rows that are given and grow; values told less exactly within.
  Contracts of chapter 23: the reference's links; links extended; live.
  The seat's own two facts on its program.
  From a law told over abstract values to calls in a world; how arguments are told.
  Chapter 23: LinkReads, LinkWrites.
  Contracts of chapter 24: entries' heads, by the code and by the reference; live.
  Contracts of entries, many: law24.Many, Total, Join by the reference, All.
  Contract of entry.Deal.
  Contracts of epoch and of its reference.
  Plain laws of chapter 11: tokens. No program.
  Plain laws of things that are read to the end; tokens and the bytes that they make. No program.
  Contracts of chapter 11: tokens, one by one.
  Contracts of chapters 11 and 12: tokens by the reference; expanding tokens.
  Plain laws of chapter 12: the bytes of written tokens, how many they are. No program.
  Contracts of chapter 11: tokens written.
  Contracts of chapter 11: tokens written by the reference, tokens read.
  Contracts of chapter 11: all tokens of some bytes; are tokens the same; live.
  Contracts of chapter 35: which segments of the version 1 are well-formed, which are the same.
  Contracts of chapter 35: segments of the version 1, the same or not; by the reference; long ones.
  Contracts that turn three or four objects; a value of which nothing is told. Over any program.
-/
import Derived.Test.YtnfagphepkeedaaGreatB1
import Derived.Test.YtnfagphepkeedaaGreatB2
import Derived.Test.YtnfagphepkeedaaGreatRows
set_option linter.all false
set_option linter.unusedSimpArgs false
set_option linter.unusedVariables false
set_option linter.unnecessarySimpa false
section
section
namespace Go.Proofs.YtnfagphepkeedaaGreat
theorem clo {p : Prop} (h : p := by (intros; simp [flt])) : p := h

abbrev iA (n : Int) : AV := .lit (.int .i64 n)
abbrev uA (n : Int) : AV := .lit (.int .u64 n)
abbrev bA (b : Bool) : AV := .lit (.bool b)
abbrev slA (k : IntKind) (l : List Int) : AV := .sl .none 1 (ints k l)
abbrev fltA (f : Int × Int) : AV := .agg [iA f.1, iA f.2]

theorem fault_Good0 (c a : Int) : Does Tryz.prog 57 [fltA (c, a)] [] (bA (c == 0)) [] := by
  refine Does.runA Tryz.func57 b57 n57 Tryz.ntmps57 ?_; simp only [c57, go_sem, Nat.reduceAdd, Nat.reduceMul, Int.reduceToNat, Nat.reduceLeDiff, Int.reduceLE, Int.reduceLT, ↓reduceIte, Int.reduceBEq, Int.reduceBNe, Int.reduceAdd, Int.reduceSub, Int.reduceMul]; try refine okTr_and rfl ?_
  exact FinK.finA r57 []
theorem fault_Good (c a : Int) : Ct Tryz.prog 57 [fltA (c, a)] [] (fun _ => bA (c == 0)) [] (fun _ => []) := (fault_Good0 c a).toCt clo clo

theorem fault_At0 (c a : Int) : Does Tryz.prog 110 [iA c, iA a] [] (fltA (flt c a)) [] := by
  refine Does.runA Tryz.func110 b110 n110 Tryz.ntmps110 ?_; simp only [c110, go_sem, Nat.reduceAdd, Nat.reduceMul, Int.reduceToNat, Nat.reduceLeDiff, Int.reduceLE, Int.reduceLT, ↓reduceIte, Int.reduceBEq, Int.reduceBNe, Int.reduceAdd, Int.reduceSub, Int.reduceMul]; try refine okTr_and rfl ?_
  refine cdK_split (fun h => ?_) (fun h => ?_)
  · have h' : c = 0 := by simpa using h
    (simp only [go_sem, Nat.reduceAdd, Nat.reduceMul, Int.reduceToNat, Nat.reduceLeDiff, Int.reduceLE, Int.reduceLT, ↓reduceIte, Int.reduceBEq, Int.reduceBNe, Int.reduceAdd, Int.reduceSub, Int.reduceMul]; try refine okTr_and rfl ?_)
    ((refine FinK.finB r110 [] ?_ ?_); (· first | with_reducible rfl | (simp [flt, h']; done) | rfl); (· simp [resAL, resA1, loadA, oneOr, flt, h']))
  · have h' : ¬ c = 0 := by simpa using h
    (simp only [go_sem, Nat.reduceAdd, Nat.reduceMul, Int.reduceToNat, Nat.reduceLeDiff, Int.reduceLE, Int.reduceLT, ↓reduceIte, Int.reduceBEq, Int.reduceBNe, Int.reduceAdd, Int.reduceSub, Int.reduceMul]; try refine okTr_and rfl ?_)
    ((refine FinK.finB r110 [] ?_ ?_); (· first | with_reducible rfl | (simp [flt, h']; done) | rfl); (· simp [resAL, resA1, loadA, oneOr, flt, h']))
theorem fault_At (c a : Int) : Ct Tryz.prog 110 [iA c, iA a] [] (fun _ => fltA (flt c a)) [] (fun _ => []) := (fault_At0 c a).toCt clo clo

def rdr (s : RS) : AObj := .cells [.sl .full 1 (ints .u8 s.l), iA s.at_, iA s.code, iA s.fat]
@[simp] theorem rdr_ren (ρ : Nat → Nat) (s : RS) : (rdr s).ren ρ = rdr s := by simp [rdr, ixs_z]
theorem rdr_dead (s : RS) : rdr s ≠ .dead := by simp [rdr]
theorem Reader_Good0 (s : RS) : Does Tryz.prog 53 [.ref 0 0] [rdr s] (bA s.good) [rdr s] := by
  refine Does.runA Tryz.func53 b53 n53 Tryz.ntmps53 ?_; simp only [c53, go_sem, Nat.reduceAdd, Nat.reduceMul, Int.reduceToNat, Nat.reduceLeDiff, Int.reduceLE, Int.reduceLT, ↓reduceIte, Int.reduceBEq, Int.reduceBNe, Int.reduceAdd, Int.reduceSub, Int.reduceMul, rdr]; try refine okTr_and rfl ?_
  refine CallK.p (fault_Good _ _) ?_
  (simp only [go_sem, Nat.reduceAdd, Nat.reduceMul, Int.reduceToNat, Nat.reduceLeDiff, Int.reduceLE, Int.reduceLT, ↓reduceIte, Int.reduceBEq, Int.reduceBNe, Int.reduceAdd, Int.reduceSub, Int.reduceMul]; try refine okTr_and rfl ?_)
  ((refine FinK.finB r53 [0] ?_ ?_); (· first | with_reducible rfl | (simp [rdr, RS.good]; done) | rfl); (· simp [resAL, resA1, loadA, oneOr, rdr, RS.good]))
theorem Reader_Good (s : RS) (i : Nat) : Ct Tryz.prog 53 [.ref i 0] [(i, rdr s)] (fun _ => bA s.good) [] (fun _ => []) := Ct.r1 (Reader_Good0 s) i clo (fun ρ => rdr_ren ρ s) (rdr_dead s) clo

theorem Reader_Fault0 (s : RS) : Does Tryz.prog 56 [.ref 0 0] [rdr s] (fltA (s.code, s.fat)) [rdr s] := by
  refine Does.runA Tryz.func56 b56 n56 Tryz.ntmps56 ?_; simp only [c56, go_sem, Nat.reduceAdd, Nat.reduceMul, Int.reduceToNat, Nat.reduceLeDiff, Int.reduceLE, Int.reduceLT, ↓reduceIte, Int.reduceBEq, Int.reduceBNe, Int.reduceAdd, Int.reduceSub, Int.reduceMul, rdr]; try refine okTr_and rfl ?_
  ((refine FinK.finB r56 [0] ?_ ?_); (· first | with_reducible rfl | (simp [rdr]; done) | rfl); (· simp [resAL, resA1, loadA, oneOr, rdr]))
theorem Reader_Fault (s : RS) (i : Nat) : Ct Tryz.prog 56 [.ref i 0] [(i, rdr s)] (fun _ => fltA (s.code, s.fat)) [] (fun _ => []) := Ct.r1 (Reader_Fault0 s) i clo (fun ρ => rdr_ren ρ s) (rdr_dead s) clo

theorem Reader_At0 (s : RS) : Does Tryz.prog 30 [.ref 0 0] [rdr s] (iA s.at_) [rdr s] := by
  refine Does.runA Tryz.func30 b30 n30 Tryz.ntmps30 ?_; simp only [c30, go_sem, Nat.reduceAdd, Nat.reduceMul, Int.reduceToNat, Nat.reduceLeDiff, Int.reduceLE, Int.reduceLT, ↓reduceIte, Int.reduceBEq, Int.reduceBNe, Int.reduceAdd, Int.reduceSub, Int.reduceMul, rdr]; try refine okTr_and rfl ?_
  ((refine FinK.finB r30 [0] ?_ ?_); (· first | with_reducible rfl | (simp [rdr]; done) | rfl); (· simp [resAL, resA1, loadA, oneOr, rdr]))
theorem Reader_At (s : RS) (i : Nat) : Ct Tryz.prog 30 [.ref i 0] [(i, rdr s)] (fun _ => iA s.at_) [] (fun _ => []) := Ct.r1 (Reader_At0 s) i clo (fun ρ => rdr_ren ρ s) (rdr_dead s) clo

theorem Reader_Left0 (s : RS) (h : s.ok) : Does Tryz.prog 111 [.ref 0 0] [rdr s] (iA s.left) [rdr s] := by
  obtain ⟨h1, h2, h3⟩ := h
  have e : IntKind.i64.wrap ((s.l.length : Int) - s.at_) = s.left := by rw [IntWalk.i64_in _ (by omega)]; rfl
  refine Does.runA Tryz.func111 b111 n111 Tryz.ntmps111 ?_; simp only [c111, go_sem, Nat.reduceAdd, Nat.reduceMul, Int.reduceToNat, Nat.reduceLeDiff, Int.reduceLE, Int.reduceLT, ↓reduceIte, Int.reduceBEq, Int.reduceBNe, Int.reduceAdd, Int.reduceSub, Int.reduceMul, rdr, ints_length, e]; try refine okTr_and rfl ?_
  ((refine FinK.finB r111 [0] ?_ ?_); (· first | with_reducible rfl | (simp [rdr]; done) | rfl); (· simp [resAL, resA1, loadA, oneOr, rdr]))
theorem Reader_Left (s : RS) (i : Nat) (h : s.ok) : Ct Tryz.prog 111 [.ref i 0] [(i, rdr s)] (fun _ => iA s.left) [] (fun _ => []) := Ct.r1 (Reader_Left0 s h) i clo (fun ρ => rdr_ren ρ s) (rdr_dead s) clo

theorem Reader_Fail0 (s : RS) (c a : Int) : Does Tryz.prog 38 [.ref 0 0, iA c, iA a] [rdr s] (.tup []) [rdr (s.fail c a)] := by
  refine Does.runA Tryz.func38 b38 n38 Tryz.ntmps38 ?_; simp only [c38, go_sem, Nat.reduceAdd, Nat.reduceMul, Int.reduceToNat, Nat.reduceLeDiff, Int.reduceLE, Int.reduceLT, ↓reduceIte, Int.reduceBEq, Int.reduceBNe, Int.reduceAdd, Int.reduceSub, Int.reduceMul]; try refine okTr_and rfl ?_
  refine CallK.r1 (Reader_Good s 0) rfl ?_
  (simp only [go_sem, Nat.reduceAdd, Nat.reduceMul, Int.reduceToNat, Nat.reduceLeDiff, Int.reduceLE, Int.reduceLT, ↓reduceIte, Int.reduceBEq, Int.reduceBNe, Int.reduceAdd, Int.reduceSub, Int.reduceMul]; try refine okTr_and rfl ?_)
  refine cdK_split (fun h => ?_) (fun h => ?_)
  · have h' : s.code = 0 := by simpa [RS.good] using h
    (simp only [go_sem, Nat.reduceAdd, Nat.reduceMul, Int.reduceToNat, Nat.reduceLeDiff, Int.reduceLE, Int.reduceLT, ↓reduceIte, Int.reduceBEq, Int.reduceBNe, Int.reduceAdd, Int.reduceSub, Int.reduceMul]; try refine okTr_and rfl ?_)
    refine CallK.p (fault_At c a) ?_
    (simp only [go_sem, Nat.reduceAdd, Nat.reduceMul, Int.reduceToNat, Nat.reduceLeDiff, Int.reduceLE, Int.reduceLT, ↓reduceIte, Int.reduceBEq, Int.reduceBNe, Int.reduceAdd, Int.reduceSub, Int.reduceMul, rdr]; try refine okTr_and rfl ?_)
    ((refine FinK.finB r38 [0] ?_ ?_); (· first | with_reducible rfl | (simp [rdr, RS.fail, h']; done) | rfl); (· simp [resAL, resA1, loadA, oneOr, rdr, RS.fail, h']))
  · have h' : ¬ s.code = 0 := by simpa [RS.good] using h
    (simp only [go_sem, Nat.reduceAdd, Nat.reduceMul, Int.reduceToNat, Nat.reduceLeDiff, Int.reduceLE, Int.reduceLT, ↓reduceIte, Int.reduceBEq, Int.reduceBNe, Int.reduceAdd, Int.reduceSub, Int.reduceMul]; try refine okTr_and rfl ?_)
    ((refine FinK.finB r38 [0] ?_ ?_); (· first | with_reducible rfl | (simp [rdr, RS.fail, h']; done) | rfl); (· simp [resAL, resA1, loadA, oneOr, rdr, RS.fail, h']))
theorem Reader_Fail (s : RS) (c a : Int) (i : Nat) : Ct Tryz.prog 38 [.ref i 0, iA c, iA a] [(i, rdr s)] (fun _ => .tup []) [(i, rdr (s.fail c a))] (fun _ => []) := Ct.u1 (Reader_Fail0 s c a) i clo (fun ρ => rdr_ren ρ s) (fun ρ => rdr_ren ρ _) (rdr_dead s) clo

theorem Reader_Skip0 (s : RS) (n : Int) (hs : s.ok) : Does Tryz.prog 158 [.ref 0 0, iA n] [rdr s] (bA (s.skip n).2) [rdr (s.skip n).1] := by
  refine Does.runA Tryz.func158 b158 n158 Tryz.ntmps158 ?_; simp only [c158, go_sem, Nat.reduceAdd, Nat.reduceMul, Int.reduceToNat, Nat.reduceLeDiff, Int.reduceLE, Int.reduceLT, ↓reduceIte, Int.reduceBEq, Int.reduceBNe, Int.reduceAdd, Int.reduceSub, Int.reduceMul]; try refine okTr_and rfl ?_
  refine CallK.r1 (Reader_Good s 0) rfl ?_
  (simp only [go_sem, Nat.reduceAdd, Nat.reduceMul, Int.reduceToNat, Nat.reduceLeDiff, Int.reduceLE, Int.reduceLT, ↓reduceIte, Int.reduceBEq, Int.reduceBNe, Int.reduceAdd, Int.reduceSub, Int.reduceMul]; try refine okTr_and rfl ?_)
  refine cdK_split (fun h => ?_) (fun h => ?_)
  · have h' : ¬ s.code = 0 := by simpa [RS.good] using h
    (simp only [go_sem, Nat.reduceAdd, Nat.reduceMul, Int.reduceToNat, Nat.reduceLeDiff, Int.reduceLE, Int.reduceLT, ↓reduceIte, Int.reduceBEq, Int.reduceBNe, Int.reduceAdd, Int.reduceSub, Int.reduceMul]; try refine okTr_and rfl ?_)
    ((refine FinK.finB r158 [0] ?_ ?_); (· first | with_reducible rfl | (simp [rdr, RS.skip, h']; done) | rfl); (· simp [resAL, resA1, loadA, oneOr, rdr, RS.skip, h']))
  · have h' : s.code = 0 := by simpa [RS.good] using h
    (simp only [go_sem, Nat.reduceAdd, Nat.reduceMul, Int.reduceToNat, Nat.reduceLeDiff, Int.reduceLE, Int.reduceLT, ↓reduceIte, Int.reduceBEq, Int.reduceBNe, Int.reduceAdd, Int.reduceSub, Int.reduceMul]; try refine okTr_and rfl ?_)
    refine cdK_split (fun h => ?_) (fun h => ?_)
    · have h2 : n < 0 := by simpa using h
      (simp only [go_sem, Nat.reduceAdd, Nat.reduceMul, Int.reduceToNat, Nat.reduceLeDiff, Int.reduceLE, Int.reduceLT, ↓reduceIte, Int.reduceBEq, Int.reduceBNe, Int.reduceAdd, Int.reduceSub, Int.reduceMul, rdr]; try refine okTr_and rfl ?_)
      refine CallK.u1 (Reader_Fail s 17 s.at_ 0) rfl ?_
      (simp only [go_sem, Nat.reduceAdd, Nat.reduceMul, Int.reduceToNat, Nat.reduceLeDiff, Int.reduceLE, Int.reduceLT, ↓reduceIte, Int.reduceBEq, Int.reduceBNe, Int.reduceAdd, Int.reduceSub, Int.reduceMul]; try refine okTr_and rfl ?_)
      ((refine FinK.finB r158 [0] ?_ ?_); (· first | with_reducible rfl | (simp [rdr, RS.skip, h', h2]; done) | rfl); (· simp [resAL, resA1, loadA, oneOr, rdr, RS.skip, h', h2]))
    · have h2 : ¬ n < 0 := by simpa using h
      (simp only [go_sem, Nat.reduceAdd, Nat.reduceMul, Int.reduceToNat, Nat.reduceLeDiff, Int.reduceLE, Int.reduceLT, ↓reduceIte, Int.reduceBEq, Int.reduceBNe, Int.reduceAdd, Int.reduceSub, Int.reduceMul]; try refine okTr_and rfl ?_)
      refine CallK.r1 (Reader_Left s 0 hs) rfl ?_
      (simp only [go_sem, Nat.reduceAdd, Nat.reduceMul, Int.reduceToNat, Nat.reduceLeDiff, Int.reduceLE, Int.reduceLT, ↓reduceIte, Int.reduceBEq, Int.reduceBNe, Int.reduceAdd, Int.reduceSub, Int.reduceMul]; try refine okTr_and rfl ?_)
      refine cdK_split (fun h => ?_) (fun h => ?_)
      · have h3 : s.left < n := by simpa using h
        (simp only [go_sem, Nat.reduceAdd, Nat.reduceMul, Int.reduceToNat, Nat.reduceLeDiff, Int.reduceLE, Int.reduceLT, ↓reduceIte, Int.reduceBEq, Int.reduceBNe, Int.reduceAdd, Int.reduceSub, Int.reduceMul, rdr, ints_length]; try refine okTr_and rfl ?_)
        refine CallK.u1 (Reader_Fail s 1 s.l.length 0) rfl ?_
        (simp only [go_sem, Nat.reduceAdd, Nat.reduceMul, Int.reduceToNat, Nat.reduceLeDiff, Int.reduceLE, Int.reduceLT, ↓reduceIte, Int.reduceBEq, Int.reduceBNe, Int.reduceAdd, Int.reduceSub, Int.reduceMul]; try refine okTr_and rfl ?_)
        ((refine FinK.finB r158 [0] ?_ ?_); (· first | with_reducible rfl | (simp [rdr, RS.skip, h', h2, h3]; done) | rfl); (· simp [resAL, resA1, loadA, oneOr, rdr, RS.skip, h', h2, h3]))
      · have h3 : ¬ s.left < n := by simpa using h
        have e : IntKind.i64.wrap (s.at_ + n) = s.at_ + n := by obtain ⟨q1, q2, q3⟩ := hs; unfold RS.left at h3; exact IntWalk.i64_in _ (by omega)
        (simp only [go_sem, Nat.reduceAdd, Nat.reduceMul, Int.reduceToNat, Nat.reduceLeDiff, Int.reduceLE, Int.reduceLT, ↓reduceIte, Int.reduceBEq, Int.reduceBNe, Int.reduceAdd, Int.reduceSub, Int.reduceMul, rdr, e]; try refine okTr_and rfl ?_)
        ((refine FinK.finB r158 [0] ?_ ?_); (· first | with_reducible rfl | (simp [rdr, RS.skip, h', h2, h3]; done) | rfl); (· simp [resAL, resA1, loadA, oneOr, rdr, RS.skip, h', h2, h3]))
theorem Reader_Skip (s : RS) (n : Int) (i : Nat) (hs : s.ok) : Ct Tryz.prog 158 [.ref i 0, iA n] [(i, rdr s)] (fun _ => bA (s.skip n).2) [(i, rdr (s.skip n).1)] (fun _ => []) := Ct.u1 (Reader_Skip0 s n hs) i clo (fun ρ => rdr_ren ρ s) (fun ρ => rdr_ren ρ _) (rdr_dead s) clo

end Go.Proofs.YtnfagphepkeedaaGreat
end
section
namespace Go.Proofs.YtnfagphepkeedaaGreat
open Go.RowKit

abbrev u8A (n : Int) : AV := .lit (.int .u8 n)
theorem u8_in_list {l : List Int} (i : Nat) (h : i < l.length) : (ints .u8 l).getD i .any = u8A (l.getD i 0) := ints_getD .u8 l i h

theorem Reader_Byte0 (s : RS) (hs : s.ok) : Does Tryz.prog 157 [.ref 0 0] [rdr s] (u8A s.byte.2) [rdr s.byte.1] := by
  refine Does.runA Tryz.func157 b157 n157 Tryz.ntmps157 ?_; simp only [c157, go_sem, Nat.reduceAdd, Nat.reduceMul, Int.reduceToNat, Nat.reduceLeDiff, Int.reduceLE, Int.reduceLT, ↓reduceIte, Int.reduceBEq, Int.reduceBNe, Int.reduceAdd, Int.reduceSub, Int.reduceMul]; try refine okTr_and rfl ?_
  refine CallK.u1 (Reader_Skip s 1 0 hs) rfl ?_
  (simp only [go_sem, Nat.reduceAdd, Nat.reduceMul, Int.reduceToNat, Nat.reduceLeDiff, Int.reduceLE, Int.reduceLT, ↓reduceIte, Int.reduceBEq, Int.reduceBNe, Int.reduceAdd, Int.reduceSub, Int.reduceMul]; try refine okTr_and rfl ?_)
  refine cdK_split (fun h => ?_) (fun h => ?_)
  · have h' : ¬ (s.skip 1).2 = true := by simpa using h
    (simp only [go_sem, Nat.reduceAdd, Nat.reduceMul, Int.reduceToNat, Nat.reduceLeDiff, Int.reduceLE, Int.reduceLT, ↓reduceIte, Int.reduceBEq, Int.reduceBNe, Int.reduceAdd, Int.reduceSub, Int.reduceMul]; try refine okTr_and rfl ?_)
    ((refine FinK.finB r157 [0] ?_ ?_); (· first | with_reducible rfl | (simp [rdr, RS.byte, h']; done) | rfl); (· simp [resAL, resA1, loadA, oneOr, rdr, RS.byte, h']))
  · have h' : (s.skip 1).2 = true := by simpa using h
    obtain ⟨h1, h2, h3, h4⟩ := skip_yes h'
    obtain ⟨a, b, c⟩ := hs
    unfold RS.left at h3
    have e : IntKind.i64.wrap (s.at_ + 1 - 1) = s.at_ := by rw [IntWalk.i64_in _ (by omega)]; omega
    have eq1 : s.at_.toNat < s.l.length := by omega
    have eq2 : s.at_ < s.l.length := by omega
    (simp only [go_sem, Nat.reduceAdd, Nat.reduceMul, Int.reduceToNat, Nat.reduceLeDiff, Int.reduceLE, Int.reduceLT, ↓reduceIte, Int.reduceBEq, Int.reduceBNe, Int.reduceAdd, Int.reduceSub, Int.reduceMul, h4, rdr, e, ints_length, u8_in_list _ eq1, a, eq2]; try refine okTr_and rfl ?_)
    ((refine FinK.finB r157 [0] ?_ ?_); (· first | with_reducible rfl | (simp [rdr, RS.byte, h', h4]; done) | rfl); (· simp [resAL, resA1, loadA, oneOr, rdr, RS.byte, h', h4]))
theorem Reader_Byte (s : RS) (i : Nat) (hs : s.ok) : Ct Tryz.prog 157 [.ref i 0] [(i, rdr s)] (fun _ => u8A s.byte.2) [(i, rdr s.byte.1)] (fun _ => []) := Ct.u1 (Reader_Byte0 s hs) i clo (fun ρ => rdr_ren ρ s) (fun ρ => rdr_ren ρ _) (rdr_dead s) clo

theorem cursor_New0 (l : List Int) : Does Tryz.prog 28 [slA .u8 l] [] (.ref 0 0) [rdr (RS.new l)] := by
  have e : (ints .u8 l).take l.length = ints .u8 l := List.take_of_length_le (by simp [ints])
  refine Does.runA Tryz.func28 b28 n28 Tryz.ntmps28 ?_; simp only [c28, go_sem, Nat.reduceAdd, Nat.reduceMul, Int.reduceToNat, Nat.reduceLeDiff, Int.reduceLE, Int.reduceLT, ↓reduceIte, Int.reduceBEq, Int.reduceBNe, Int.reduceAdd, Int.reduceSub, Int.reduceMul, ints_length, sli_hm, Int.toNat_natCast, e]; try refine okTr_and rfl ?_
  (repeat ((with_reducible refine And.intro ?_ ?_); (· exact sd)))
  ((refine FinK.finB r28 [0] ?_ ?_); (· first | with_reducible rfl | (simp [rdr, RS.new]; done) | rfl); (· simp [resAL, resA1, loadA, oneOr, rdr, RS.new]))
theorem cursor_New (l : List Int) : Ct Tryz.prog 28 [slA .u8 l] [] (fun n => .ref n 0) [] (fun _ => [rdr (RS.new l)]) := Ct.n (cursor_New0 l) clo cl cl

theorem Reader_Take0 (s : RS) (n : Int) (hs : s.ok) : Does Tryz.prog 106 [.ref 0 0, iA n] [rdr s] (slA .u8 (s.take n).2) [rdr (s.take n).1] := by
  refine Does.runA Tryz.func106 b106 n106 Tryz.ntmps106 ?_; simp only [c106, go_sem, Nat.reduceAdd, Nat.reduceMul, Int.reduceToNat, Nat.reduceLeDiff, Int.reduceLE, Int.reduceLT, ↓reduceIte, Int.reduceBEq, Int.reduceBNe, Int.reduceAdd, Int.reduceSub, Int.reduceMul]; try refine okTr_and rfl ?_
  refine CallK.u1 (Reader_Skip s n 0 hs) rfl ?_
  (simp only [go_sem, Nat.reduceAdd, Nat.reduceMul, Int.reduceToNat, Nat.reduceLeDiff, Int.reduceLE, Int.reduceLT, ↓reduceIte, Int.reduceBEq, Int.reduceBNe, Int.reduceAdd, Int.reduceSub, Int.reduceMul]; try refine okTr_and rfl ?_)
  refine cdK_split (fun h => ?_) (fun h => ?_)
  · have h' : ¬ (s.skip n).2 = true := by simpa using h
    (simp only [go_sem, Nat.reduceAdd, Nat.reduceMul, Int.reduceToNat, Nat.reduceLeDiff, Int.reduceLE, Int.reduceLT, ↓reduceIte, Int.reduceBEq, Int.reduceBNe, Int.reduceAdd, Int.reduceSub, Int.reduceMul]; try refine okTr_and rfl ?_)
    (refine FinK.untag 4 rfl ?_; simp only [untag1_sl, List.set_cons_zero, List.set_cons_succ])
    ((refine FinK.finB r106 [0] ?_ ?_); (· first | with_reducible rfl | (simp [rdr, RS.take, h']; done) | rfl); (· simp [resAL, resA1, loadA, oneOr, rdr, RS.take, h']))
  · have h' : (s.skip n).2 = true := by simpa using h
    obtain ⟨h1, h2, h3, h4⟩ := skip_yes h'
    obtain ⟨a, b, c⟩ := hs
    unfold RS.left at h3
    have e : IntKind.i64.wrap (s.at_ + n - n) = s.at_ := by rw [IntWalk.i64_in _ (by omega)]; omega
    have e2 : (s.at_ + n - s.at_).toNat = n.toNat := by congr 1; omega
    (simp only [go_sem, Nat.reduceAdd, Nat.reduceMul, Int.reduceToNat, Nat.reduceLeDiff, Int.reduceLE, Int.reduceLT, ↓reduceIte, Int.reduceBEq, Int.reduceBNe, Int.reduceAdd, Int.reduceSub, Int.reduceMul, h4, rdr, e, e2, ints_length, a, ints_take, ints_drop]; try refine okTr_and rfl ?_)
    (repeat ((with_reducible refine And.intro ?_ ?_); (· exact sd)))
    (refine FinK.untag 4 rfl ?_; simp only [untag1_sl, List.set_cons_zero, List.set_cons_succ])
    ((refine FinK.finB r106 [0] ?_ ?_); (· first | with_reducible rfl | (simp [rdr, RS.take, h', h4]; done) | rfl); (· simp [resAL, resA1, loadA, oneOr, rdr, RS.take, h', h4]))
theorem Reader_Take (s : RS) (n : Int) (i : Nat) (hs : s.ok) : Ct Tryz.prog 106 [.ref i 0, iA n] [(i, rdr s)] (fun _ => slA .u8 (s.take n).2) [(i, rdr (s.take n).1)] (fun _ => []) := Ct.u1 (Reader_Take0 s n hs) i clo (fun ρ => rdr_ren ρ s) (fun ρ => rdr_ren ρ _) (rdr_dead s) clo

theorem shr7 {y : Int} : y.fdiv (2 ^ min 7 64) = y / 128 := by
  show y.fdiv 128 = y / 128
  rw [Int.fdiv_eq_ediv_of_nonneg _ (by omega)]
theorem varint_Size0 (x : Int) (h0 : 0 ≤ x) (h1 : x < 18446744073709551616) : Does Tryz.prog 150 [uA x] [] (iA (vb x).length) [] := by
  refine Does.runA Tryz.func150 b150 n150 Tryz.ntmps150 ?_; simp only [c150, go_sem, Nat.reduceAdd, Nat.reduceMul, Int.reduceToNat, Nat.reduceLeDiff, Int.reduceLE, Int.reduceLT, ↓reduceIte, Int.reduceBEq, Int.reduceBNe, Int.reduceAdd, Int.reduceSub, Int.reduceMul]; try refine okTr_and rfl ?_
  have hl := (vb_len x).2
  refine loop_of (α := Int × Int) (fun a => [uA a.1, .any, iA 0, iA a.2, .any, .any, .any, .any, .any, .any, .any]) (fun _ => []) (fun a => 0 ≤ a.1 ∧ a.1 < 18446744073709551616 ∧ 1 ≤ a.2 ∧ a.2 + (vb a.1).length = 1 + (vb x).length) (fun a => a.1.toNat) (x, 1) ⟨h0, h1, Int.le_refl _, rfl⟩ (Wk.forget (by simp [leT])) ?_
  rintro ⟨y, k⟩ ⟨y0, y1, k0, hk⟩
  simp only at y0 y1 k0 hk
  have hy := (vb_len y).1
  (simp only [go_sem, Nat.reduceAdd, Nat.reduceMul, Int.reduceToNat, Nat.reduceLeDiff, Int.reduceLE, Int.reduceLT, ↓reduceIte, Int.reduceBEq, Int.reduceBNe, Int.reduceAdd, Int.reduceSub, Int.reduceMul]; try refine okTr_and rfl ?_)
  refine cdK_split (fun h => ?_) (fun h => ?_)
  · have hy2 : 128 ≤ y := by simpa using h
    have ew : IntKind.i64.wrap (k + 1) = k + 1 := IntWalk.i64_in _ (by omega)
    have eb := vb_ge hy2 y1
    (simp only [go_sem, Nat.reduceAdd, Nat.reduceMul, Int.reduceToNat, Nat.reduceLeDiff, Int.reduceLE, Int.reduceLT, ↓reduceIte, Int.reduceBEq, Int.reduceBNe, Int.reduceAdd, Int.reduceSub, Int.reduceMul, shr7, ew]; try refine okTr_and rfl ?_)
    (repeat ((with_reducible refine And.intro ?_ ?_); (· exact sd)))
    refine ⟨(y / 128, k + 1), ⟨by simp only; omega, by simp only; omega, by simp only; omega, ?_⟩, by simp only; omega, Wk.forget (by simp [leT])⟩
    rw [eb] at hk; simp at hk ⊢; omega
  · have hy2 : y < 128 := by simpa using h
    have eb := vb_lt hy2
    rw [eb] at hk
    have ek : k = (vb x).length := by simp at hk; omega
    (simp only [go_sem, Nat.reduceAdd, Nat.reduceMul, Int.reduceToNat, Nat.reduceLeDiff, Int.reduceLE, Int.reduceLT, ↓reduceIte, Int.reduceBEq, Int.reduceBNe, Int.reduceAdd, Int.reduceSub, Int.reduceMul]; try refine okTr_and rfl ?_)
    ((refine FinK.finB r150 [] ?_ ?_); (· first | with_reducible rfl | (simp [ek]; done) | rfl); (· simp [resAL, resA1, loadA, oneOr, ek]))
theorem varint_Size (x : Int) (h0 : 0 ≤ x) (h1 : x < 18446744073709551616) : Ct Tryz.prog 150 [uA x] [] (fun _ => iA (vb x).length) [] (fun _ => []) := (varint_Size0 x h0 h1).toCt clo clo

theorem or128_of {y : Int} (h0 : 0 ≤ y) : bitsI .or .u8 (IntKind.u8.wrap y) 128 = 128 + y % 128 := by
  rw [IntKind.wrap_u8]
  show bits .or .u8 (y % 256) 128 = _
  rw [u8_or _ _ (by omega) (by omega) (by omega) (by omega)]
  have := or128 ⟨(y % 256).toNat, by omega⟩
  simp only at this
  rw [show (128 : Int).toNat = 128 from rfl, this]
  omega
theorem varint_Bytes0 (x : Int) (h0 : 0 ≤ x) (h1 : x < 18446744073709551616) : Does Tryz.prog 85 [uA x] [] (slA .u8 (vb x)) [] := by
  refine Does.runA Tryz.func85 b85 n85 Tryz.ntmps85 ?_; simp only [c85, go_sem, Nat.reduceAdd, Nat.reduceMul, Int.reduceToNat, Nat.reduceLeDiff, Int.reduceLE, Int.reduceLT, ↓reduceIte, Int.reduceBEq, Int.reduceBNe, Int.reduceAdd, Int.reduceSub, Int.reduceMul]; try refine okTr_and rfl ?_
  have hl := (vb_len x).2
  refine loop_of (α := Int × List Int) (fun a => [uA a.1, .any, .any, .sl (.row 0) 1 (ints .u8 a.2), .any, .any, .any, .any, .any, .any, .any, .any, .any, .any, .any, .any, .any, .any, .any]) (fun a => [.row 1 a.2.length]) (fun a => 0 ≤ a.1 ∧ a.1 < 18446744073709551616 ∧ a.2 ++ vb a.1 = vb x) (fun a => a.1.toNat) (x, []) ⟨h0, h1, rfl⟩ ((Wk.row 3 1 rfl (.inl rfl) (Nat.le_refl _)).trans (Wk.forget (by simp [leT, ints]))) ?_
  rintro ⟨y, m⟩ ⟨y0, y1, hk⟩
  simp only at y0 y1 hk
  have hm : m.length ≤ 10 := by rw [← hk] at hl; simp at hl; omega
  (simp only [go_sem, Nat.reduceAdd, Nat.reduceMul, Int.reduceToNat, Nat.reduceLeDiff, Int.reduceLE, Int.reduceLT, ↓reduceIte, Int.reduceBEq, Int.reduceBNe, Int.reduceAdd, Int.reduceSub, Int.reduceMul]; try refine okTr_and rfl ?_)
  refine cdK_split (fun h => ?_) (fun h => ?_)
  · have hy2 : 128 ≤ y := by simpa using h
    have eb := vb_ge hy2 y1
    have e1 : [u8A (128 + y % 128)] = ints .u8 [128 + y % 128] := rfl
    (simp only [go_sem, Nat.reduceAdd, Nat.reduceMul, Int.reduceToNat, Nat.reduceLeDiff, Int.reduceLE, Int.reduceLT, ↓reduceIte, Int.reduceBEq, Int.reduceBNe, Int.reduceAdd, Int.reduceSub, Int.reduceMul, shr7, or128_of y0, e1, ints_append, ints_length]; try refine okTr_and rfl ?_)
    (repeat ((with_reducible refine And.intro ?_ ?_); (· exact sd)))
    refine ⟨(y / 128, m ++ [128 + y % 128]), ⟨by simp only; omega, by simp only; omega, ?_⟩, by simp only; omega, Wk.to (by simp) (by simp [leT])⟩
    rw [← hk, eb]; simp
  · have hy2 : y < 128 := by simpa using h
    have eb := vb_lt hy2
    rw [eb] at hk
    have ew : IntKind.u8.wrap y = y := IntWalk.u8_in _ (by omega)
    have e1 : [u8A y] = ints .u8 [y] := rfl
    (simp only [go_sem, Nat.reduceAdd, Nat.reduceMul, Int.reduceToNat, Nat.reduceLeDiff, Int.reduceLE, Int.reduceLT, ↓reduceIte, Int.reduceBEq, Int.reduceBNe, Int.reduceAdd, Int.reduceSub, Int.reduceMul, ew, e1, ints_append, ints_length]; try refine okTr_and rfl ?_)
    (repeat ((with_reducible refine And.intro ?_ ?_); (· exact sd)))
    (refine FinK.untag 2 rfl ?_; simp only [untag1_sl, List.set_cons_zero, List.set_cons_succ])
    ((refine FinK.finB r85 [] ?_ ?_); (· first | with_reducible rfl | (simp [hk]; done) | rfl); (· simp [resAL, resA1, loadA, oneOr, hk]))
theorem varint_Bytes (x : Int) (h0 : 0 ≤ x) (h1 : x < 18446744073709551616) : Ct Tryz.prog 85 [uA x] [] (fun _ => slA .u8 (vb x)) [] (fun _ => []) := (varint_Bytes0 x h0 h1).toCt cl cl
end Go.Proofs.YtnfagphepkeedaaGreat
end
section
namespace Go.Proofs.YtnfagphepkeedaaGreat
open Go.RowKit

theorem adv0 (s : RS) : s.adv 0 = s := by simp [RS.adv]
theorem RS.ok.adv {s : RS} (h : s.ok) {i : Nat} (hi : i ≤ s.rest.length) : (s.adv i).ok := by
  obtain ⟨a, b, c⟩ := h
  have := rest_len s a b
  exact ⟨by show 0 ≤ s.at_ + (i : Int); omega, by show s.at_ + (i : Int) ≤ s.l.length; omega, c⟩
theorem adv_good (s : RS) (i : Int) : (s.adv i).good = (s.code == 0) := rfl
theorem adv_at (s : RS) (i : Int) : (s.adv i).at_ = s.at_ + i := rfl

theorem or_join' (i : Nat) (hi : i ≤ 9) (x c : Int) (h0 : 0 ≤ x) (h1 : x < 128 ^ i) (c0 : 0 ≤ c) (c1 : c < 128) (c2 : i = 9 → c ≤ 1) :
    bitsI .or .u64 x (IntKind.u64.wrap (IntKind.u64.wrap c * 2 ^ min (7 * (i : Int)).toNat 64)) = x + 128 ^ i * c := by
  have e1 : IntKind.u64.wrap c = c := IntWalk.u64_in _ (by omega)
  have e2 : min (7 * (i : Int)).toNat 64 = 7 * i := by
    omega
  rw [e1, e2]
  exact (or_join i hi x c h0 h1 c0 c1 c2).1
set_option maxRecDepth 100000 in
theorem varint_Read0 (s : RS) (hs : s.ok) (hb : Bys s.l) : Does Tryz.prog 104 [.ref 0 0] [rdr s] (uA s.vint.2) [rdr s.vint.1] := by
  have hs0 := hs
  obtain ⟨a, b, c⟩ := hs
  refine Does.runA Tryz.func104 b104 n104 Tryz.ntmps104 ?_; simp only [c104, go_sem, Nat.reduceAdd, Nat.reduceMul, Int.reduceToNat, Nat.reduceLeDiff, Int.reduceLE, Int.reduceLT, ↓reduceIte, Int.reduceBEq, Int.reduceBNe, Int.reduceAdd, Int.reduceSub, Int.reduceMul]; try refine okTr_and rfl ?_
  refine scope_of (α := Nat × Int) 0 (by rfl) (fun a => [.ref 0 0, .any, uA 0, uA a.2, .any, iA (7 * (a.1 : Int)), iA s.at_, .any, .any, .any, .any, .any, .any, .any, .any, .any, .any, .any, .any, .any, .any, .any, .any, .any, .any, .any, .any, .any, .any, .any, .any, .any, .any, .any, .any, .any, .any, .any, .any, .any, .any, .any, .any, .any, .any, .any, .any, .any, .any, .any, .any, .any, .any, .any]) (fun a => [rdr (s.adv a.1)])
    (fun a => a.1 ≤ 9 ∧ (s.code ≠ 0 → a.1 = 0) ∧ 0 ≤ a.2 ∧ a.2 < 128 ^ a.1 ∧ Upto s a.1 a.2 ∧ a.1 ≤ s.rest.length) (fun a => 10 - a.1) (fun pass => ?_) ?_
  · (simp only [go_sem, Nat.reduceAdd, Nat.reduceMul, Int.reduceToNat, Nat.reduceLeDiff, Int.reduceLE, Int.reduceLT, ↓reduceIte, Int.reduceBEq, Int.reduceBNe, Int.reduceAdd, Int.reduceSub, Int.reduceMul]; try refine okTr_and rfl ?_)
    refine CallK.r1 (Reader_At s 0) rfl ?_
    (simp only [go_sem, Nat.reduceAdd, Nat.reduceMul, Int.reduceToNat, Nat.reduceLeDiff, Int.reduceLE, Int.reduceLT, ↓reduceIte, Int.reduceBEq, Int.reduceBNe, Int.reduceAdd, Int.reduceSub, Int.reduceMul]; try refine okTr_and rfl ?_)
    refine kLab_go (Wk.to ?_ ?_) (pass (0, 0) ⟨by simp, fun _ => rfl, by simp, by simp, upto_zero s hb, by simp⟩)
    · simp [adv0]
    · simp [leT]
  · rintro ⟨i, x⟩ ⟨hi9, hci, x0, x1, hu, hir⟩
    simp only at hi9 hci x0 x1 hu hir
    have hrl := rest_len s a b
    (simp only [go_sem, Nat.reduceAdd, Nat.reduceMul, Int.reduceToNat, Nat.reduceLeDiff, Int.reduceLE, Int.reduceLT, ↓reduceIte, Int.reduceBEq, Int.reduceBNe, Int.reduceAdd, Int.reduceSub, Int.reduceMul]; try refine okTr_and rfl ?_)
    refine CallK.u1 (Reader_Byte (s.adv i) 0 (hs0.adv hir)) rfl ?_
    by_cases hc : s.code = 0
    · cases hd : s.rest.drop i with
      | nil =>
        have hil : s.rest.length ≤ i := by
          rcases Nat.lt_or_ge i s.rest.length with h | h
          · have := congrArg List.length hd; simp at this; omega
          · exact h
        have hB := byte_end s i hc a b (by omega)
        have hv := vint_end hc hu hd
        (simp only [go_sem, Nat.reduceAdd, Nat.reduceMul, Int.reduceToNat, Nat.reduceLeDiff, Int.reduceLE, Int.reduceLT, ↓reduceIte, Int.reduceBEq, Int.reduceBNe, Int.reduceAdd, Int.reduceSub, Int.reduceMul, hB]; try refine okTr_and rfl ?_)
        refine CallK.r1 (Reader_Good _ 0) rfl ?_
        (simp only [go_sem, Nat.reduceAdd, Nat.reduceMul, Int.reduceToNat, Nat.reduceLeDiff, Int.reduceLE, Int.reduceLT, ↓reduceIte, Int.reduceBEq, Int.reduceBNe, Int.reduceAdd, Int.reduceSub, Int.reduceMul, RS.good, show ((1 : Int) == 0) = false from rfl]; try refine okTr_and rfl ?_)
        ((refine FinK.finB r104 [0] ?_ ?_); (· first | with_reducible rfl | (simp [hv]; done) | rfl); (· simp [resAL, resA1, loadA, oneOr, hv]))
      | cons c t =>
        obtain ⟨hB, hle⟩ := byte_good s i c t hc a b hd
        have hcb : 0 ≤ c ∧ c < 256 := by
          have : c ∈ s.rest.drop i := by rw [hd]; exact List.mem_cons_self ..
          exact hb c (List.mem_of_mem_drop (List.mem_of_mem_drop this))
        have hil : i < s.rest.length := by
          rcases Nat.lt_or_ge i s.rest.length with h | h
          · exact h
          · rw [List.drop_eq_nil_of_le h] at hd; cases hd
        have hg : (s.adv ((i : Int) + 1)).good = true := by rw [adv_good]; simp [hc]
        have hw : IntKind.i64.wrap ((s.adv ((i : Int) + 1)).at_ - 1) = s.at_ + i := by
          rw [adv_at, IntWalk.i64_in _ (by omega)]; omega
        (simp only [go_sem, Nat.reduceAdd, Nat.reduceMul, Int.reduceToNat, Nat.reduceLeDiff, Int.reduceLE, Int.reduceLT, ↓reduceIte, Int.reduceBEq, Int.reduceBNe, Int.reduceAdd, Int.reduceSub, Int.reduceMul, hB]; try refine okTr_and rfl ?_)
        refine CallK.r1 (Reader_Good _ 0) rfl ?_
        (simp only [go_sem, Nat.reduceAdd, Nat.reduceMul, Int.reduceToNat, Nat.reduceLeDiff, Int.reduceLE, Int.reduceLT, ↓reduceIte, Int.reduceBEq, Int.reduceBNe, Int.reduceAdd, Int.reduceSub, Int.reduceMul, hg]; try refine okTr_and rfl ?_)
        have t1 : (7 * (i : Int) == 63) = decide (i = 9) := by
          rw [Bool.eq_iff_iff]; simp; omega
        by_cases c1 : i = 9 ∧ 1 < c
        · have hv := vint_over hc hu hd c1.1 c1.2
          have t2 : decide (1 < c) = true := by simpa using c1.2
          have t3 : decide (i = 9) = true := by simpa using c1.1
          (simp only [go_sem, Nat.reduceAdd, Nat.reduceMul, Int.reduceToNat, Nat.reduceLeDiff, Int.reduceLE, Int.reduceLT, ↓reduceIte, Int.reduceBEq, Int.reduceBNe, Int.reduceAdd, Int.reduceSub, Int.reduceMul, t1, t2, t3]; try refine okTr_and rfl ?_)
          refine CallK.r1 (Reader_At _ 0) rfl ?_
          (simp only [go_sem, Nat.reduceAdd, Nat.reduceMul, Int.reduceToNat, Nat.reduceLeDiff, Int.reduceLE, Int.reduceLT, ↓reduceIte, Int.reduceBEq, Int.reduceBNe, Int.reduceAdd, Int.reduceSub, Int.reduceMul, hw]; try refine okTr_and rfl ?_)
          refine CallK.u1 (Reader_Fail _ 5 _ 0) rfl ?_
          (simp only [go_sem, Nat.reduceAdd, Nat.reduceMul, Int.reduceToNat, Nat.reduceLeDiff, Int.reduceLE, Int.reduceLT, ↓reduceIte, Int.reduceBEq, Int.reduceBNe, Int.reduceAdd, Int.reduceSub, Int.reduceMul]; try refine okTr_and rfl ?_)
          ((refine FinK.finB r104 [0] ?_ ?_); (· first | with_reducible rfl | (simp [hv]; done) | rfl); (· simp [resAL, resA1, loadA, oneOr, hv]))
        · have p1 : (decide (i = 9) = true ∧ decide (1 < c) = false) ∨ (decide (i = 9) = false ∧ True) := by
            simp only [decide_eq_true_eq, decide_eq_false_iff_not, and_true]; omega
          by_cases c2 : 0 < i ∧ c = 0
          · obtain ⟨c2', rfl⟩ := c2
            have hv := vint_min hc hu hd c2'
            have t3 : decide (s.at_ < s.at_ + i) = true := by simp; omega
            rcases p1 with ⟨q1, q2⟩ | ⟨q1, q2⟩ <;>
            · (simp only [go_sem, Nat.reduceAdd, Nat.reduceMul, Int.reduceToNat, Nat.reduceLeDiff, Int.reduceLE, Int.reduceLT, ↓reduceIte, Int.reduceBEq, Int.reduceBNe, Int.reduceAdd, Int.reduceSub, Int.reduceMul, t1, q1]; try refine okTr_and rfl ?_)
              refine CallK.r1 (Reader_At _ 0) rfl ?_
              (simp only [go_sem, Nat.reduceAdd, Nat.reduceMul, Int.reduceToNat, Nat.reduceLeDiff, Int.reduceLE, Int.reduceLT, ↓reduceIte, Int.reduceBEq, Int.reduceBNe, Int.reduceAdd, Int.reduceSub, Int.reduceMul, hw, t3]; try refine okTr_and rfl ?_)
              refine CallK.r1 (Reader_At _ 0) rfl ?_
              (simp only [go_sem, Nat.reduceAdd, Nat.reduceMul, Int.reduceToNat, Nat.reduceLeDiff, Int.reduceLE, Int.reduceLT, ↓reduceIte, Int.reduceBEq, Int.reduceBNe, Int.reduceAdd, Int.reduceSub, Int.reduceMul, hw]; try refine okTr_and rfl ?_)
              refine CallK.u1 (Reader_Fail _ 4 _ 0) rfl ?_
              (simp only [go_sem, Nat.reduceAdd, Nat.reduceMul, Int.reduceToNat, Nat.reduceLeDiff, Int.reduceLE, Int.reduceLT, ↓reduceIte, Int.reduceBEq, Int.reduceBNe, Int.reduceAdd, Int.reduceSub, Int.reduceMul]; try refine okTr_and rfl ?_)
              ((refine FinK.finB r104 [0] ?_ ?_); (· first | with_reducible rfl | (simp [hv]; done) | rfl); (· simp [resAL, resA1, loadA, oneOr, hv]))
          · have hor := or_join' i hi9 x (c % 128) x0 x1 (by omega) (by omega) (by omega)
            have hm : c.tmod 128 = c % 128 := Int.tmod_eq_emod_of_nonneg (by omega)
            have p2 : ((c == 0) = true ∧ decide (s.at_ < s.at_ + i) = false) ∨ (c == 0) = false := by
              simp only [beq_iff_eq, decide_eq_false_iff_not, beq_eq_false_iff_ne]; omega
            rcases p1 with ⟨q1, q2⟩ | ⟨q1, q2⟩ <;> rcases p2 with ⟨q3, q4⟩ | q3 <;> (first | ((simp only [go_sem, Nat.reduceAdd, Nat.reduceMul, Int.reduceToNat, Nat.reduceLeDiff, Int.reduceLE, Int.reduceLT, ↓reduceIte, Int.reduceBEq, Int.reduceBNe, Int.reduceAdd, Int.reduceSub, Int.reduceMul, t1, q1, q2, q3, hm]; try refine okTr_and rfl ?_); refine CallK.r1 (Reader_At _ 0) rfl ?_; (simp only [go_sem, Nat.reduceAdd, Nat.reduceMul, Int.reduceToNat, Nat.reduceLeDiff, Int.reduceLE, Int.reduceLT, ↓reduceIte, Int.reduceBEq, Int.reduceBNe, Int.reduceAdd, Int.reduceSub, Int.reduceMul, hw, q4, hm, hor]; try refine okTr_and rfl ?_)) | (simp only [go_sem, Nat.reduceAdd, Nat.reduceMul, Int.reduceToNat, Nat.reduceLeDiff, Int.reduceLE, Int.reduceLT, ↓reduceIte, Int.reduceBEq, Int.reduceBNe, Int.reduceAdd, Int.reduceSub, Int.reduceMul, t1, q1, q2, q3, hm, hor]; try refine okTr_and rfl ?_)) <;>
            · (repeat ((with_reducible refine And.intro ?_ ?_); (· exact sd)))
              refine cdK_split (fun h => ?_) (fun h => ?_)
              · have h2 : 128 ≤ c := by simpa using h
                have h9 : i ≠ 9 := by omega
                obtain ⟨hu', hd'⟩ := upto_more hu hd c1 c2 (by omega)
                have h2x := (or_join i hi9 x (c % 128) x0 x1 (by omega) (by omega) (by omega)).2
                have hw2 : IntKind.i64.wrap (7 * (i : Int) + 7) = 7 * ((i + 1 : Nat) : Int) := by rw [IntWalk.i64_in _ (by omega)]; omega
                (simp only [go_sem, Nat.reduceAdd, Nat.reduceMul, Int.reduceToNat, Nat.reduceLeDiff, Int.reduceLE, Int.reduceLT, ↓reduceIte, Int.reduceBEq, Int.reduceBNe, Int.reduceAdd, Int.reduceSub, Int.reduceMul]; try refine okTr_and rfl ?_)
                refine ⟨(i + 1, x + 128 ^ i * (c % 128)), ⟨by simp only; omega, fun h => absurd hc h, h2x.2, h2x.1, hu', by simp only; omega⟩, by simp only; omega, Wk.to ?_ ?_⟩
                · simp
                · simp [leT, hw2]
              · have h2 : c < 128 := by simpa using h
                have hv := vint_last hc hu hd c1 c2 h2
                have hm2 : c % 128 = c := by omega
                (simp only [go_sem, Nat.reduceAdd, Nat.reduceMul, Int.reduceToNat, Nat.reduceLeDiff, Int.reduceLE, Int.reduceLT, ↓reduceIte, Int.reduceBEq, Int.reduceBNe, Int.reduceAdd, Int.reduceSub, Int.reduceMul]; try refine okTr_and rfl ?_)
                ((refine FinK.finB r104 [0] ?_ ?_); (· first | with_reducible rfl | (simp [hv, hm2]; done) | rfl); (· simp [resAL, resA1, loadA, oneOr, hv, hm2]))
    · have hi0 := hci hc
      subst hi0
      have hB := byte_bad s hc
      have hv := vint_bad hc
      have e0 : ((0 : Nat) : Int) = 0 := rfl
      have hg : s.good = false := by simp [RS.good, hc]
      (simp only [go_sem, Nat.reduceAdd, Nat.reduceMul, Int.reduceToNat, Nat.reduceLeDiff, Int.reduceLE, Int.reduceLT, ↓reduceIte, Int.reduceBEq, Int.reduceBNe, Int.reduceAdd, Int.reduceSub, Int.reduceMul, e0, hB]; try refine okTr_and rfl ?_)
      refine CallK.r1 (Reader_Good _ 0) rfl ?_
      (simp only [go_sem, Nat.reduceAdd, Nat.reduceMul, Int.reduceToNat, Nat.reduceLeDiff, Int.reduceLE, Int.reduceLT, ↓reduceIte, Int.reduceBEq, Int.reduceBNe, Int.reduceAdd, Int.reduceSub, Int.reduceMul, hg]; try refine okTr_and rfl ?_)
      ((refine FinK.finB r104 [0] ?_ ?_); (· first | with_reducible rfl | (simp [hv]; done) | rfl); (· simp [resAL, resA1, loadA, oneOr, hv]))
theorem varint_Read (s : RS) (i : Nat) (hs : s.ok) (hb : Bys s.l) : Ct Tryz.prog 104 [.ref i 0] [(i, rdr s)] (fun _ => uA s.vint.2) [(i, rdr s.vint.1)] (fun _ => []) := Ct.u1 (varint_Read0 s hs hb) i clo (fun ρ => rdr_ren ρ s) (fun ρ => rdr_ren ρ _) (rdr_dead s) clo

theorem varint_ReadMost0 (s : RS) (m : Int) (hs : s.ok) (hb : Bys s.l) : Does Tryz.prog 116 [.ref 0 0, uA m] [rdr s] (uA (s.most m).2) [rdr (s.most m).1] := by
  refine Does.runA Tryz.func116 b116 n116 Tryz.ntmps116 ?_; simp only [c116, go_sem, Nat.reduceAdd, Nat.reduceMul, Int.reduceToNat, Nat.reduceLeDiff, Int.reduceLE, Int.reduceLT, ↓reduceIte, Int.reduceBEq, Int.reduceBNe, Int.reduceAdd, Int.reduceSub, Int.reduceMul]; try refine okTr_and rfl ?_
  refine CallK.r1 (Reader_At s 0) rfl ?_
  (simp only [go_sem, Nat.reduceAdd, Nat.reduceMul, Int.reduceToNat, Nat.reduceLeDiff, Int.reduceLE, Int.reduceLT, ↓reduceIte, Int.reduceBEq, Int.reduceBNe, Int.reduceAdd, Int.reduceSub, Int.reduceMul]; try refine okTr_and rfl ?_)
  refine CallK.u1 (varint_Read s 0 hs hb) rfl ?_
  (simp only [go_sem, Nat.reduceAdd, Nat.reduceMul, Int.reduceToNat, Nat.reduceLeDiff, Int.reduceLE, Int.reduceLT, ↓reduceIte, Int.reduceBEq, Int.reduceBNe, Int.reduceAdd, Int.reduceSub, Int.reduceMul]; try refine okTr_and rfl ?_)
  refine cdK_split (fun h => ?_) (fun h => ?_)
  · have h' : m < s.vint.2 := by simpa using h
    (simp only [go_sem, Nat.reduceAdd, Nat.reduceMul, Int.reduceToNat, Nat.reduceLeDiff, Int.reduceLE, Int.reduceLT, ↓reduceIte, Int.reduceBEq, Int.reduceBNe, Int.reduceAdd, Int.reduceSub, Int.reduceMul]; try refine okTr_and rfl ?_)
    refine CallK.u1 (Reader_Fail _ 2 _ 0) rfl ?_
    (simp only [go_sem, Nat.reduceAdd, Nat.reduceMul, Int.reduceToNat, Nat.reduceLeDiff, Int.reduceLE, Int.reduceLT, ↓reduceIte, Int.reduceBEq, Int.reduceBNe, Int.reduceAdd, Int.reduceSub, Int.reduceMul]; try refine okTr_and rfl ?_)
    ((refine FinK.finB r116 [0] ?_ ?_); (· first | with_reducible rfl | (simp [RS.most, h']; done) | rfl); (· simp [resAL, resA1, loadA, oneOr, RS.most, h']))
  · have h' : ¬ m < s.vint.2 := by simpa using h
    (simp only [go_sem, Nat.reduceAdd, Nat.reduceMul, Int.reduceToNat, Nat.reduceLeDiff, Int.reduceLE, Int.reduceLT, ↓reduceIte, Int.reduceBEq, Int.reduceBNe, Int.reduceAdd, Int.reduceSub, Int.reduceMul]; try refine okTr_and rfl ?_)
    ((refine FinK.finB r116 [0] ?_ ?_); (· first | with_reducible rfl | (simp [RS.most, h']; done) | rfl); (· simp [resAL, resA1, loadA, oneOr, RS.most, h']))
theorem varint_ReadMost (s : RS) (m : Int) (i : Nat) (hs : s.ok) (hb : Bys s.l) : Ct Tryz.prog 116 [.ref i 0, uA m] [(i, rdr s)] (fun _ => uA (s.most m).2) [(i, rdr (s.most m).1)] (fun _ => []) := Ct.u1 (varint_ReadMost0 s m hs hb) i clo (fun ρ => rdr_ren ρ s) (fun ρ => rdr_ren ρ _) (rdr_dead s) clo

theorem varint_ReadInt0 (s : RS) (m : Int) (m1 : m < 9223372036854775808) (hs : s.ok) (hb : Bys s.l) : Does Tryz.prog 49 [.ref 0 0, iA m] [rdr s] (iA (s.int m).2) [rdr (s.int m).1] := by
  refine Does.runA Tryz.func49 b49 n49 Tryz.ntmps49 ?_; simp only [c49, go_sem, Nat.reduceAdd, Nat.reduceMul, Int.reduceToNat, Nat.reduceLeDiff, Int.reduceLE, Int.reduceLT, ↓reduceIte, Int.reduceBEq, Int.reduceBNe, Int.reduceAdd, Int.reduceSub, Int.reduceMul]; try refine okTr_and rfl ?_
  refine cdK_split (fun h => ?_) (fun h => ?_)
  · have h' : 0 ≤ m := by simpa using h
    have e : IntKind.u64.wrap m = m := IntWalk.u64_in _ (by omega)
    have hr := most_range (m := m) hb h'
    have e2 : IntKind.i64.wrap (s.most m).2 = (s.most m).2 := IntWalk.i64_in _ (by omega)
    (simp only [go_sem, Nat.reduceAdd, Nat.reduceMul, Int.reduceToNat, Nat.reduceLeDiff, Int.reduceLE, Int.reduceLT, ↓reduceIte, Int.reduceBEq, Int.reduceBNe, Int.reduceAdd, Int.reduceSub, Int.reduceMul, e]; try refine okTr_and rfl ?_)
    refine CallK.u1 (varint_ReadMost s m 0 hs hb) rfl ?_
    (simp only [go_sem, Nat.reduceAdd, Nat.reduceMul, Int.reduceToNat, Nat.reduceLeDiff, Int.reduceLE, Int.reduceLT, ↓reduceIte, Int.reduceBEq, Int.reduceBNe, Int.reduceAdd, Int.reduceSub, Int.reduceMul, e2]; try refine okTr_and rfl ?_)
    ((refine FinK.finB r49 [0] ?_ ?_); (· first | with_reducible rfl | (simp [RS.int, h']; done) | rfl); (· simp [resAL, resA1, loadA, oneOr, RS.int, h']))
  · have h' : ¬ 0 ≤ m := by simpa using h
    (simp only [go_sem, Nat.reduceAdd, Nat.reduceMul, Int.reduceToNat, Nat.reduceLeDiff, Int.reduceLE, Int.reduceLT, ↓reduceIte, Int.reduceBEq, Int.reduceBNe, Int.reduceAdd, Int.reduceSub, Int.reduceMul]; try refine okTr_and rfl ?_)
    refine CallK.r1 (Reader_At s 0) rfl ?_
    (simp only [go_sem, Nat.reduceAdd, Nat.reduceMul, Int.reduceToNat, Nat.reduceLeDiff, Int.reduceLE, Int.reduceLT, ↓reduceIte, Int.reduceBEq, Int.reduceBNe, Int.reduceAdd, Int.reduceSub, Int.reduceMul]; try refine okTr_and rfl ?_)
    refine CallK.u1 (varint_Read s 0 hs hb) rfl ?_
    (simp only [go_sem, Nat.reduceAdd, Nat.reduceMul, Int.reduceToNat, Nat.reduceLeDiff, Int.reduceLE, Int.reduceLT, ↓reduceIte, Int.reduceBEq, Int.reduceBNe, Int.reduceAdd, Int.reduceSub, Int.reduceMul]; try refine okTr_and rfl ?_)
    refine CallK.u1 (Reader_Fail _ 2 _ 0) rfl ?_
    (simp only [go_sem, Nat.reduceAdd, Nat.reduceMul, Int.reduceToNat, Nat.reduceLeDiff, Int.reduceLE, Int.reduceLT, ↓reduceIte, Int.reduceBEq, Int.reduceBNe, Int.reduceAdd, Int.reduceSub, Int.reduceMul]; try refine okTr_and rfl ?_)
    ((refine FinK.finB r49 [0] ?_ ?_); (· first | with_reducible rfl | (simp [RS.int, h']; done) | rfl); (· simp [resAL, resA1, loadA, oneOr, RS.int, h']))
theorem varint_ReadInt (s : RS) (m : Int) (i : Nat) (m1 : m < 9223372036854775808) (hs : s.ok) (hb : Bys s.l) : Ct Tryz.prog 49 [.ref i 0, iA m] [(i, rdr s)] (fun _ => iA (s.int m).2) [(i, rdr (s.int m).1)] (fun _ => []) := Ct.u1 (varint_ReadInt0 s m m1 hs hb) i clo (fun ρ => rdr_ren ρ s) (fun ρ => rdr_ren ρ _) (rdr_dead s) clo
end Go.Proofs.YtnfagphepkeedaaGreat
end
section
namespace Go.Proofs.YtnfagphepkeedaaGreat
open Go.RowKit

/-- A writer whose buffer is row j. -/
def wob (j : Nat) (s : WS) : AObj := .cells [iA s.most, .sl (.row j) 1 (ints .u8 s.l), iA s.code]
def wrow (s : WS) : AObj := .row 1 s.l.length
@[simp] theorem wob_ren (ρ : Nat → Nat) (j : Nat) (s : WS) : (wob j s).ren ρ = wob (ρ j) s := by simp [wob, ixs_z]
@[simp] theorem wrow_ren (ρ : Nat → Nat) (s : WS) : (wrow s).ren ρ = wrow s := rfl
theorem wob_dead (j : Nat) (s : WS) : wob j s ≠ .dead := by simp [wob]
theorem wrow_dead (s : WS) : wrow s ≠ .dead := by simp [wrow]

theorem Writer_Code0 (s : WS) : Does Tryz.prog 130 [.ref 0 0] [wob 1 s, wrow s] (iA s.code) [wob 1 s, wrow s] := by
  refine Does.runA Tryz.func130 b130 n130 Tryz.ntmps130 ?_; simp only [c130, go_sem, Nat.reduceAdd, Nat.reduceMul, Int.reduceToNat, Nat.reduceLeDiff, Int.reduceLE, Int.reduceLT, ↓reduceIte, Int.reduceBEq, Int.reduceBNe, Int.reduceAdd, Int.reduceSub, Int.reduceMul, wob, wrow]; try refine okTr_and rfl ?_
  ((refine FinK.finB r130 [0, 1] ?_ ?_); (· first | with_reducible rfl | (simp [wob, wrow]; done) | rfl); (· simp [resAL, resA1, loadA, oneOr, wob, wrow]))
theorem Writer_Code (s : WS) (i j : Nat) (h : i ≠ j) : Ct Tryz.prog 130 [.ref i 0] [(i, wob j s), (j, wrow s)] (fun _ => iA s.code) [] (fun _ => []) := Ct.r2 (Writer_Code0 s) i j h clo cl cl (wob_dead _ _) (wrow_dead _) clo

theorem Writer_Room0 (s : WS) (hs : s.ok) : Does Tryz.prog 166 [.ref 0 0] [wob 1 s, wrow s] (iA s.room) [wob 1 s, wrow s] := by
  obtain ⟨a, b, c⟩ := hs
  have e : IntKind.i64.wrap (s.most - s.l.length) = s.room := by rw [IntWalk.i64_in _ (by omega)]; rfl
  refine Does.runA Tryz.func166 b166 n166 Tryz.ntmps166 ?_; simp only [c166, go_sem, Nat.reduceAdd, Nat.reduceMul, Int.reduceToNat, Nat.reduceLeDiff, Int.reduceLE, Int.reduceLT, ↓reduceIte, Int.reduceBEq, Int.reduceBNe, Int.reduceAdd, Int.reduceSub, Int.reduceMul, wob, wrow, ints_length, e]; try refine okTr_and rfl ?_
  ((refine FinK.finB r166 [0, 1] ?_ ?_); (· first | with_reducible rfl | (simp [wob, wrow]; done) | rfl); (· simp [resAL, resA1, loadA, oneOr, wob, wrow]))
theorem Writer_Room (s : WS) (i j : Nat) (h : i ≠ j) (hs : s.ok) : Ct Tryz.prog 166 [.ref i 0] [(i, wob j s), (j, wrow s)] (fun _ => iA s.room) [] (fun _ => []) := Ct.r2 (Writer_Room0 s hs) i j h clo cl cl (wob_dead _ _) (wrow_dead _) clo

theorem Writer_Fail0 (s : WS) (c : Int) : Does Tryz.prog 152 [.ref 0 0, iA c] [wob 1 s, wrow s] (.tup []) [wob 1 (s.fail c), wrow (s.fail c)] := by
  have hw : wrow (s.fail c) = wrow s := by unfold wrow; rw [(fail_parts s c).2]
  refine Does.runA Tryz.func152 b152 n152 Tryz.ntmps152 ?_; simp only [c152, go_sem, Nat.reduceAdd, Nat.reduceMul, Int.reduceToNat, Nat.reduceLeDiff, Int.reduceLE, Int.reduceLT, ↓reduceIte, Int.reduceBEq, Int.reduceBNe, Int.reduceAdd, Int.reduceSub, Int.reduceMul]; try refine okTr_and rfl ?_
  refine CallK.r2 (Writer_Code s 0 1 (by decide)) rfl rfl ?_
  (simp only [go_sem, Nat.reduceAdd, Nat.reduceMul, Int.reduceToNat, Nat.reduceLeDiff, Int.reduceLE, Int.reduceLT, ↓reduceIte, Int.reduceBEq, Int.reduceBNe, Int.reduceAdd, Int.reduceSub, Int.reduceMul]; try refine okTr_and rfl ?_)
  refine cdK_split (fun h => ?_) (fun h => ?_)
  · have h' : s.code = 0 := by simpa using h
    (simp only [go_sem, Nat.reduceAdd, Nat.reduceMul, Int.reduceToNat, Nat.reduceLeDiff, Int.reduceLE, Int.reduceLT, ↓reduceIte, Int.reduceBEq, Int.reduceBNe, Int.reduceAdd, Int.reduceSub, Int.reduceMul, wob]; try refine okTr_and rfl ?_)
    ((refine FinK.finB r152 [0, 1] ?_ ?_); (· first | with_reducible rfl | (simp [wob, wrow, WS.fail, h']; done) | rfl); (· simp [resAL, resA1, loadA, oneOr, wob, wrow, WS.fail, h']))
  · have h' : ¬ s.code = 0 := by simpa using h
    (simp only [go_sem, Nat.reduceAdd, Nat.reduceMul, Int.reduceToNat, Nat.reduceLeDiff, Int.reduceLE, Int.reduceLT, ↓reduceIte, Int.reduceBEq, Int.reduceBNe, Int.reduceAdd, Int.reduceSub, Int.reduceMul]; try refine okTr_and rfl ?_)
    ((refine FinK.finB r152 [0, 1] ?_ ?_); (· first | with_reducible rfl | (simp [hw, WS.fail, h']; done) | rfl); (· simp [resAL, resA1, loadA, oneOr, hw, WS.fail, h']))
theorem Writer_Fail (s : WS) (c : Int) (i j : Nat) (h : i ≠ j) : Ct Tryz.prog 152 [.ref i 0, iA c] [(i, wob j s), (j, wrow s)] (fun _ => .tup []) [(i, wob j (s.fail c)), (j, wrow (s.fail c))] (fun _ => []) := Ct.u2 (Writer_Fail0 s c) i j h clo cl cl cl cl (wob_dead _ _) (wrow_dead _) clo

theorem Writer_Put0 (s : WS) (m : List Int) (hs : s.ok) (hB : s.l.length + m.length ≤ s.most → s.l.length + m.length ≤ 140737488355328) : Does Tryz.prog 129 [.ref 0 0, slA .u8 m] [wob 1 s, wrow s] (.tup []) [wob 1 (s.put m), wrow (s.put m)] := by
  refine Does.runA Tryz.func129 b129 n129 Tryz.ntmps129 ?_; simp only [c129, go_sem, Nat.reduceAdd, Nat.reduceMul, Int.reduceToNat, Nat.reduceLeDiff, Int.reduceLE, Int.reduceLT, ↓reduceIte, Int.reduceBEq, Int.reduceBNe, Int.reduceAdd, Int.reduceSub, Int.reduceMul]; try refine okTr_and rfl ?_
  refine CallK.r2 (Writer_Code s 0 1 (by decide)) rfl rfl ?_
  (simp only [go_sem, Nat.reduceAdd, Nat.reduceMul, Int.reduceToNat, Nat.reduceLeDiff, Int.reduceLE, Int.reduceLT, ↓reduceIte, Int.reduceBEq, Int.reduceBNe, Int.reduceAdd, Int.reduceSub, Int.reduceMul]; try refine okTr_and rfl ?_)
  refine cdK_split (fun h => ?_) (fun h => ?_)
  · have h' : ¬ s.code = 0 := by simpa using h
    (simp only [go_sem, Nat.reduceAdd, Nat.reduceMul, Int.reduceToNat, Nat.reduceLeDiff, Int.reduceLE, Int.reduceLT, ↓reduceIte, Int.reduceBEq, Int.reduceBNe, Int.reduceAdd, Int.reduceSub, Int.reduceMul]; try refine okTr_and rfl ?_)
    ((refine FinK.finB r129 [0, 1] ?_ ?_); (· first | with_reducible rfl | (simp [WS.put, h']; done) | rfl); (· simp [resAL, resA1, loadA, oneOr, WS.put, h']))
  · have h' : s.code = 0 := by simpa using h
    (simp only [go_sem, Nat.reduceAdd, Nat.reduceMul, Int.reduceToNat, Nat.reduceLeDiff, Int.reduceLE, Int.reduceLT, ↓reduceIte, Int.reduceBEq, Int.reduceBNe, Int.reduceAdd, Int.reduceSub, Int.reduceMul]; try refine okTr_and rfl ?_)
    refine CallK.r2 (Writer_Room s 0 1 (by decide) hs) rfl rfl ?_
    (simp only [go_sem, Nat.reduceAdd, Nat.reduceMul, Int.reduceToNat, Nat.reduceLeDiff, Int.reduceLE, Int.reduceLT, ↓reduceIte, Int.reduceBEq, Int.reduceBNe, Int.reduceAdd, Int.reduceSub, Int.reduceMul, ints_length]; try refine okTr_and rfl ?_)
    refine cdK_split (fun h => ?_) (fun h => ?_)
    · have h2 : s.most - s.l.length < m.length := by simp at h; simp only [WS.room] at h; omega
      have hf : s.fail 2 = s.put m := by unfold WS.put WS.fail; rw [if_pos h', if_pos h', if_pos h2]
      (simp only [go_sem, Nat.reduceAdd, Nat.reduceMul, Int.reduceToNat, Nat.reduceLeDiff, Int.reduceLE, Int.reduceLT, ↓reduceIte, Int.reduceBEq, Int.reduceBNe, Int.reduceAdd, Int.reduceSub, Int.reduceMul]; try refine okTr_and rfl ?_)
      refine CallK.u2 (Writer_Fail s 2 0 1 (by decide)) rfl rfl ?_
      (simp only [go_sem, Nat.reduceAdd, Nat.reduceMul, Int.reduceToNat, Nat.reduceLeDiff, Int.reduceLE, Int.reduceLT, ↓reduceIte, Int.reduceBEq, Int.reduceBNe, Int.reduceAdd, Int.reduceSub, Int.reduceMul]; try refine okTr_and rfl ?_)
      ((refine FinK.finB r129 [0, 1] ?_ ?_); (· first | with_reducible rfl | (simp [hf]; done) | rfl); (· simp [resAL, resA1, loadA, oneOr, hf]))
    · have h2 : ¬ s.most - s.l.length < m.length := by simp at h; simp only [WS.room] at h; omega
      (simp only [go_sem, Nat.reduceAdd, Nat.reduceMul, Int.reduceToNat, Nat.reduceLeDiff, Int.reduceLE, Int.reduceLT, ↓reduceIte, Int.reduceBEq, Int.reduceBNe, Int.reduceAdd, Int.reduceSub, Int.reduceMul, wob, wrow, ints_length, ints_append]; try refine okTr_and rfl ?_)
      (repeat ((with_reducible refine And.intro ?_ ?_); (· exact sd)))
      ((refine FinK.finB r129 [0, 1] ?_ ?_); (· first | with_reducible rfl | (simp [wob, wrow, WS.put, h', h2]; done) | rfl); (· simp [resAL, resA1, loadA, oneOr, wob, wrow, WS.put, h', h2]))
theorem Writer_Put (s : WS) (m : List Int) (i j : Nat) (h : i ≠ j) (hs : s.ok) (hB : s.l.length + m.length ≤ s.most → s.l.length + m.length ≤ 140737488355328) : Ct Tryz.prog 129 [.ref i 0, slA .u8 m] [(i, wob j s), (j, wrow s)] (fun _ => .tup []) [(i, wob j (s.put m)), (j, wrow (s.put m))] (fun _ => []) := Ct.u2 (Writer_Put0 s m hs hB) i j h clo cl cl cl cl (wob_dead _ _) (wrow_dead _) clo

theorem Writer_Bytes0 (s : WS) (hb : s.l.length ≤ 140737488355328) : Does Tryz.prog 70 [.ref 0 0] [wob 1 s, wrow s] (.tup [slA .u8 s.bytes, iA s.code]) [wob 1 s, wrow s] := by
  refine Does.runA Tryz.func70 b70 n70 Tryz.ntmps70 ?_; simp only [c70, go_sem, Nat.reduceAdd, Nat.reduceMul, Int.reduceToNat, Nat.reduceLeDiff, Int.reduceLE, Int.reduceLT, ↓reduceIte, Int.reduceBEq, Int.reduceBNe, Int.reduceAdd, Int.reduceSub, Int.reduceMul]; try refine okTr_and rfl ?_
  refine CallK.r2 (Writer_Code s 0 1 (by decide)) rfl rfl ?_
  (simp only [go_sem, Nat.reduceAdd, Nat.reduceMul, Int.reduceToNat, Nat.reduceLeDiff, Int.reduceLE, Int.reduceLT, ↓reduceIte, Int.reduceBEq, Int.reduceBNe, Int.reduceAdd, Int.reduceSub, Int.reduceMul]; try refine okTr_and rfl ?_)
  refine cdK_split (fun h => ?_) (fun h => ?_)
  · have h' : ¬ s.code = 0 := by simpa using h
    (simp only [go_sem, Nat.reduceAdd, Nat.reduceMul, Int.reduceToNat, Nat.reduceLeDiff, Int.reduceLE, Int.reduceLT, ↓reduceIte, Int.reduceBEq, Int.reduceBNe, Int.reduceAdd, Int.reduceSub, Int.reduceMul]; try refine okTr_and rfl ?_)
    (refine FinK.untag 2 rfl ?_; simp only [untag1_sl, List.set_cons_zero, List.set_cons_succ])
    ((refine FinK.finB r70 [0, 1] ?_ ?_); (· first | with_reducible rfl | (simp [WS.bytes, h']; done) | rfl); (· simp [resAL, resA1, loadA, oneOr, WS.bytes, h']))
  · have h' : s.code = 0 := by simpa using h
    (simp only [go_sem, Nat.reduceAdd, Nat.reduceMul, Int.reduceToNat, Nat.reduceLeDiff, Int.reduceLE, Int.reduceLT, ↓reduceIte, Int.reduceBEq, Int.reduceBNe, Int.reduceAdd, Int.reduceSub, Int.reduceMul, wob, wrow, ints_length]; try refine okTr_and rfl ?_)
    (repeat ((with_reducible refine And.intro ?_ ?_); (· exact sd)))
    (refine FinK.untag 2 rfl ?_; simp only [untag1_sl, List.set_cons_zero, List.set_cons_succ])
    ((refine FinK.finB r70 [0, 1] ?_ ?_); (· first | with_reducible rfl | (simp [wob, wrow, WS.bytes, h']; done) | rfl); (· simp [resAL, resA1, loadA, oneOr, wob, wrow, WS.bytes, h']))
theorem Writer_Bytes (s : WS) (i j : Nat) (h : i ≠ j) (hb : s.l.length ≤ 140737488355328) : Ct Tryz.prog 70 [.ref i 0] [(i, wob j s), (j, wrow s)] (fun _ => .tup [slA .u8 s.bytes, iA s.code]) [] (fun _ => []) := Ct.r2 (Writer_Bytes0 s hb) i j h clo cl cl (wob_dead _ _) (wrow_dead _) clo

theorem pen_New0 (n : Int) : Does Tryz.prog 66 [iA n] [] (.ref 0 0) [wob 1 (WS.new n), wrow (WS.new n)] := by
  have e : (if 0 > n then (0 : Int) else n) = max n 0 := by split <;> omega
  refine Does.runA Tryz.func66 b66 n66 Tryz.ntmps66 ?_; simp only [c66, go_sem, Nat.reduceAdd, Nat.reduceMul, Int.reduceToNat, Nat.reduceLeDiff, Int.reduceLE, Int.reduceLT, ↓reduceIte, Int.reduceBEq, Int.reduceBNe, Int.reduceAdd, Int.reduceSub, Int.reduceMul, e]; try refine okTr_and rfl ?_
  refine FinK.wk (Wk.rowObj 0 1 1 rfl rfl (.inl rfl) (Nat.le_refl _)) ?_
  (simp only [go_sem, Nat.reduceAdd, Nat.reduceMul, Int.reduceToNat, Nat.reduceLeDiff, Int.reduceLE, Int.reduceLT, ↓reduceIte, Int.reduceBEq, Int.reduceBNe, Int.reduceAdd, Int.reduceSub, Int.reduceMul]; try refine okTr_and rfl ?_)
  ((refine FinK.finB r66 [0, 1] ?_ ?_); (· first | with_reducible rfl | (simp [wob, wrow, WS.new]; done) | rfl); (· simp [resAL, resA1, loadA, oneOr, wob, wrow, WS.new]))
theorem pen_New (n : Int) : Ct Tryz.prog 66 [iA n] [] (fun k => .ref k 0) [] (fun k => [wob (k + 1) (WS.new n), wrow (WS.new n)]) := Ct.n (pen_New0 n) clo cl cl

theorem varint_Put0 (s : WS) (x : Int) (h0 : 0 ≤ x) (h1 : x < 18446744073709551616) (hs : s.ok) (hB : s.l.length + (vb x).length ≤ s.most → s.l.length + (vb x).length ≤ 140737488355328) : Does Tryz.prog 68 [.ref 0 0, uA x] [wob 1 s, wrow s] (.tup []) [wob 1 (s.put (vb x)), wrow (s.put (vb x))] := by
  refine Does.runA Tryz.func68 b68 n68 Tryz.ntmps68 ?_; simp only [c68, go_sem, Nat.reduceAdd, Nat.reduceMul, Int.reduceToNat, Nat.reduceLeDiff, Int.reduceLE, Int.reduceLT, ↓reduceIte, Int.reduceBEq, Int.reduceBNe, Int.reduceAdd, Int.reduceSub, Int.reduceMul]; try refine okTr_and rfl ?_
  refine CallK.p (varint_Bytes x h0 h1) ?_
  (simp only [go_sem, Nat.reduceAdd, Nat.reduceMul, Int.reduceToNat, Nat.reduceLeDiff, Int.reduceLE, Int.reduceLT, ↓reduceIte, Int.reduceBEq, Int.reduceBNe, Int.reduceAdd, Int.reduceSub, Int.reduceMul]; try refine okTr_and rfl ?_)
  refine CallK.u2 (Writer_Put s (vb x) 0 1 (by decide) hs hB) rfl rfl ?_
  (simp only [go_sem, Nat.reduceAdd, Nat.reduceMul, Int.reduceToNat, Nat.reduceLeDiff, Int.reduceLE, Int.reduceLT, ↓reduceIte, Int.reduceBEq, Int.reduceBNe, Int.reduceAdd, Int.reduceSub, Int.reduceMul]; try refine okTr_and rfl ?_)
  exact FinK.finA r68 [0, 1]
theorem varint_Put (s : WS) (x : Int) (i j : Nat) (h : i ≠ j) (h0 : 0 ≤ x) (h1 : x < 18446744073709551616) (hs : s.ok) (hB : s.l.length + (vb x).length ≤ s.most → s.l.length + (vb x).length ≤ 140737488355328) : Ct Tryz.prog 68 [.ref i 0, uA x] [(i, wob j s), (j, wrow s)] (fun _ => .tup []) [(i, wob j (s.put (vb x))), (j, wrow (s.put (vb x)))] (fun _ => []) := Ct.u2 (varint_Put0 s x h0 h1 hs hB) i j h clo cl cl cl cl (wob_dead _ _) (wrow_dead _) clo
end Go.Proofs.YtnfagphepkeedaaGreat
end
section
namespace Go.Proofs.YtnfagphepkeedaaGreat
open Go.RowKit

/-- A reader as a value. -/
abbrev cv (s : RS) : AV := .agg [slA .u8 s.l, iA s.at_, iA s.code, iA s.fat]

theorem ref01_At0 (c a : Int) : Does Tryz.prog 64 [iA c, iA a] [] (fltA (flt c a)) [] := by
  refine Does.runA Tryz.func64 b64 n64 Tryz.ntmps64 ?_; simp only [c64, go_sem, Nat.reduceAdd, Nat.reduceMul, Int.reduceToNat, Nat.reduceLeDiff, Int.reduceLE, Int.reduceLT, ↓reduceIte, Int.reduceBEq, Int.reduceBNe, Int.reduceAdd, Int.reduceSub, Int.reduceMul]; try refine okTr_and rfl ?_
  refine cdK_split (fun h => ?_) (fun h => ?_)
  · have h' : ¬ c = 0 := by simpa using h
    (simp only [go_sem, Nat.reduceAdd, Nat.reduceMul, Int.reduceToNat, Nat.reduceLeDiff, Int.reduceLE, Int.reduceLT, ↓reduceIte, Int.reduceBEq, Int.reduceBNe, Int.reduceAdd, Int.reduceSub, Int.reduceMul]; try refine okTr_and rfl ?_)
    ((refine FinK.finB r64 [] ?_ ?_); (· first | with_reducible rfl | (simp [flt, h']; done) | rfl); (· simp [resAL, resA1, loadA, oneOr, flt, h']))
  · have h' : c = 0 := by simpa using h
    (simp only [go_sem, Nat.reduceAdd, Nat.reduceMul, Int.reduceToNat, Nat.reduceLeDiff, Int.reduceLE, Int.reduceLT, ↓reduceIte, Int.reduceBEq, Int.reduceBNe, Int.reduceAdd, Int.reduceSub, Int.reduceMul]; try refine okTr_and rfl ?_)
    ((refine FinK.finB r64 [] ?_ ?_); (· first | with_reducible rfl | (simp [flt, h']; done) | rfl); (· simp [resAL, resA1, loadA, oneOr, flt, h']))
theorem ref01_At (c a : Int) : Ct Tryz.prog 64 [iA c, iA a] [] (fun _ => fltA (flt c a)) [] (fun _ => []) := (ref01_At0 c a).toCt clo clo

theorem ref02_Fail0 (s : RS) (c a : Int) : Does Tryz.prog 44 [cv s, iA c, iA a] [] (cv (s.fail c a)) [] := by
  refine Does.runA Tryz.func44 b44 n44 Tryz.ntmps44 ?_; simp only [c44, go_sem, Nat.reduceAdd, Nat.reduceMul, Int.reduceToNat, Nat.reduceLeDiff, Int.reduceLE, Int.reduceLT, ↓reduceIte, Int.reduceBEq, Int.reduceBNe, Int.reduceAdd, Int.reduceSub, Int.reduceMul]; try refine okTr_and rfl ?_
  refine cdK_split (fun h => ?_) (fun h => ?_)
  · have h' : s.code = 0 := by simpa using h
    (simp only [go_sem, Nat.reduceAdd, Nat.reduceMul, Int.reduceToNat, Nat.reduceLeDiff, Int.reduceLE, Int.reduceLT, ↓reduceIte, Int.reduceBEq, Int.reduceBNe, Int.reduceAdd, Int.reduceSub, Int.reduceMul]; try refine okTr_and rfl ?_)
    refine CallK.p (ref01_At c a) ?_
    (simp only [go_sem, Nat.reduceAdd, Nat.reduceMul, Int.reduceToNat, Nat.reduceLeDiff, Int.reduceLE, Int.reduceLT, ↓reduceIte, Int.reduceBEq, Int.reduceBNe, Int.reduceAdd, Int.reduceSub, Int.reduceMul]; try refine okTr_and rfl ?_)
    ((refine FinK.finB r44 [] ?_ ?_); (· first | with_reducible rfl | (simp [RS.fail, h']; done) | rfl); (· simp [resAL, resA1, loadA, oneOr, RS.fail, h']))
  · have h' : ¬ s.code = 0 := by simpa using h
    (simp only [go_sem, Nat.reduceAdd, Nat.reduceMul, Int.reduceToNat, Nat.reduceLeDiff, Int.reduceLE, Int.reduceLT, ↓reduceIte, Int.reduceBEq, Int.reduceBNe, Int.reduceAdd, Int.reduceSub, Int.reduceMul]; try refine okTr_and rfl ?_)
    ((refine FinK.finB r44 [] ?_ ?_); (· first | with_reducible rfl | (simp [RS.fail, h']; done) | rfl); (· simp [resAL, resA1, loadA, oneOr, RS.fail, h']))
theorem ref02_Fail (s : RS) (c a : Int) : Ct Tryz.prog 44 [cv s, iA c, iA a] [] (fun _ => cv (s.fail c a)) [] (fun _ => []) := (ref02_Fail0 s c a).toCt clo clo

theorem bytes_same {l m : List Int} (hl : Bys l) (hm : Bys m) : ((bytesOf (ints .u8 l)).toList == (bytesOf (ints .u8 m)).toList) = sameB l m := by
  rw [ByteArray.toList_eq, ByteArray.toList_eq]
  unfold sameB
  rw [Bool.eq_iff_iff]
  simp only [beq_iff_eq, decide_eq_true_eq]
  constructor
  · intro h
    refine bys_inj l m hl hm ?_
    have h' : (ints .u8 l).map AV.byte = (ints .u8 m).map AV.byte := by simpa [bytesOf] using h
    unfold ints at h'
    rw [List.map_map, List.map_map] at h'
    exact h'
  · rintro rfl; rfl
theorem ref02_Same0 (l m : List Int) (hl : Bys l) (hm : Bys m) : Does Tryz.prog 19 [slA .u8 l, slA .u8 m] [] (bA (sameB l m)) [] := by
  refine Does.runA Tryz.func19 b19 n19 Tryz.ntmps19 ?_; simp only [c19, go_sem, Nat.reduceAdd, Nat.reduceMul, Int.reduceToNat, Nat.reduceLeDiff, Int.reduceLE, Int.reduceLT, ↓reduceIte, Int.reduceBEq, Int.reduceBNe, Int.reduceAdd, Int.reduceSub, Int.reduceMul, ints_u8, bytes_same hl hm]; try refine okTr_and rfl ?_
  exact FinK.finA r19 []
theorem ref02_Same (l m : List Int) (hl : Bys l) (hm : Bys m) : Ct Tryz.prog 19 [slA .u8 l, slA .u8 m] [] (fun _ => bA (sameB l m)) [] (fun _ => []) := (ref02_Same0 l m hl hm).toCt clo clo

theorem ref02_Take0 (s : RS) (n : Int) (hs : s.ok) : Does Tryz.prog 114 [cv s, iA n] [] (.tup [cv (s.take n).1, slA .u8 (s.take n).2]) [] := by
  obtain ⟨a, b, c⟩ := hs
  refine Does.runA Tryz.func114 b114 n114 Tryz.ntmps114 ?_; simp only [c114, go_sem, Nat.reduceAdd, Nat.reduceMul, Int.reduceToNat, Nat.reduceLeDiff, Int.reduceLE, Int.reduceLT, ↓reduceIte, Int.reduceBEq, Int.reduceBNe, Int.reduceAdd, Int.reduceSub, Int.reduceMul]; try refine okTr_and rfl ?_
  refine cdK_split (fun h => ?_) (fun h => ?_)
  · have h' : ¬ s.code = 0 := by simpa using h
    (simp only [go_sem, Nat.reduceAdd, Nat.reduceMul, Int.reduceToNat, Nat.reduceLeDiff, Int.reduceLE, Int.reduceLT, ↓reduceIte, Int.reduceBEq, Int.reduceBNe, Int.reduceAdd, Int.reduceSub, Int.reduceMul]; try refine okTr_and rfl ?_)
    (refine FinK.untag 5 rfl ?_; simp only [untag1_sl, List.set_cons_zero, List.set_cons_succ])
    ((refine FinK.finB r114 [] ?_ ?_); (· first | with_reducible rfl | (simp [RS.take, RS.skip, h']; done) | rfl); (· simp [resAL, resA1, loadA, oneOr, RS.take, RS.skip, h']))
  · have h' : s.code = 0 := by simpa using h
    (simp only [go_sem, Nat.reduceAdd, Nat.reduceMul, Int.reduceToNat, Nat.reduceLeDiff, Int.reduceLE, Int.reduceLT, ↓reduceIte, Int.reduceBEq, Int.reduceBNe, Int.reduceAdd, Int.reduceSub, Int.reduceMul]; try refine okTr_and rfl ?_)
    refine cdK_split (fun h => ?_) (fun h => ?_)
    · have h2 : n < 0 := by simpa using h
      (simp only [go_sem, Nat.reduceAdd, Nat.reduceMul, Int.reduceToNat, Nat.reduceLeDiff, Int.reduceLE, Int.reduceLT, ↓reduceIte, Int.reduceBEq, Int.reduceBNe, Int.reduceAdd, Int.reduceSub, Int.reduceMul]; try refine okTr_and rfl ?_)
      refine CallK.p (ref02_Fail s _ _) ?_
      (simp only [go_sem, Nat.reduceAdd, Nat.reduceMul, Int.reduceToNat, Nat.reduceLeDiff, Int.reduceLE, Int.reduceLT, ↓reduceIte, Int.reduceBEq, Int.reduceBNe, Int.reduceAdd, Int.reduceSub, Int.reduceMul]; try refine okTr_and rfl ?_)
      (refine FinK.untag 5 rfl ?_; simp only [untag1_sl, List.set_cons_zero, List.set_cons_succ])
      ((refine FinK.finB r114 [] ?_ ?_); (· first | with_reducible rfl | (simp [RS.take, RS.skip, h', h2]; done) | rfl); (· simp [resAL, resA1, loadA, oneOr, RS.take, RS.skip, h', h2]))
    · have h2 : ¬ n < 0 := by simpa using h
      have e : IntKind.i64.wrap ((s.l.length : Int) - s.at_) = s.left := by rw [IntWalk.i64_in _ (by omega)]; rfl
      (simp only [go_sem, Nat.reduceAdd, Nat.reduceMul, Int.reduceToNat, Nat.reduceLeDiff, Int.reduceLE, Int.reduceLT, ↓reduceIte, Int.reduceBEq, Int.reduceBNe, Int.reduceAdd, Int.reduceSub, Int.reduceMul, ints_length, e]; try refine okTr_and rfl ?_)
      refine cdK_split (fun h => ?_) (fun h => ?_)
      · have h3 : s.left < n := by simpa using h
        (simp only [go_sem, Nat.reduceAdd, Nat.reduceMul, Int.reduceToNat, Nat.reduceLeDiff, Int.reduceLE, Int.reduceLT, ↓reduceIte, Int.reduceBEq, Int.reduceBNe, Int.reduceAdd, Int.reduceSub, Int.reduceMul, ints_length]; try refine okTr_and rfl ?_)
        refine CallK.p (ref02_Fail s _ _) ?_
        (simp only [go_sem, Nat.reduceAdd, Nat.reduceMul, Int.reduceToNat, Nat.reduceLeDiff, Int.reduceLE, Int.reduceLT, ↓reduceIte, Int.reduceBEq, Int.reduceBNe, Int.reduceAdd, Int.reduceSub, Int.reduceMul]; try refine okTr_and rfl ?_)
        (refine FinK.untag 5 rfl ?_; simp only [untag1_sl, List.set_cons_zero, List.set_cons_succ])
        ((refine FinK.finB r114 [] ?_ ?_); (· first | with_reducible rfl | (simp [RS.take, RS.skip, h', h2, h3]; done) | rfl); (· simp [resAL, resA1, loadA, oneOr, RS.take, RS.skip, h', h2, h3]))
      · have h3 : ¬ s.left < n := by simpa using h
        have h3' := h3
        unfold RS.left at h3'
        have e2 : IntKind.i64.wrap (s.at_ + n) = s.at_ + n := IntWalk.i64_in _ (by omega)
        have e3 : (s.at_ + n - s.at_).toNat = n.toNat := by congr 1; omega
        (simp only [go_sem, Nat.reduceAdd, Nat.reduceMul, Int.reduceToNat, Nat.reduceLeDiff, Int.reduceLE, Int.reduceLT, ↓reduceIte, Int.reduceBEq, Int.reduceBNe, Int.reduceAdd, Int.reduceSub, Int.reduceMul, e2, e3, ints_length, ints_take, ints_drop]; try refine okTr_and rfl ?_)
        (repeat ((with_reducible refine And.intro ?_ ?_); (· exact sd)))
        (refine FinK.untag 5 rfl ?_; simp only [untag1_sl, List.set_cons_zero, List.set_cons_succ])
        ((refine FinK.finB r114 [] ?_ ?_); (· first | with_reducible rfl | (simp [RS.take, RS.skip, h', h2, h3]; done) | rfl); (· simp [resAL, resA1, loadA, oneOr, RS.take, RS.skip, h', h2, h3]))
theorem ref02_Take (s : RS) (n : Int) (hs : s.ok) : Ct Tryz.prog 114 [cv s, iA n] [] (fun _ => .tup [cv (s.take n).1, slA .u8 (s.take n).2]) [] (fun _ => []) := (ref02_Take0 s n hs).toCt clo clo

abbrev vG (q : Int × Int × (Int × Int)) : AV := .tup [uA q.1, iA q.2.1, fltA q.2.2]
theorem u8_get (l : List Int) (i : Int) (h0 : 0 ≤ i) (h1 : i < l.length) : (ints .u8 l).getD i.toNat .any = u8A (l.getD i.toNat 0) := u8_in_list _ (by omega)
set_option maxRecDepth 100000 in
theorem ref04_Get0 (l : List Int) (hl : Bys l) (hn : l.length ≤ 140737488355328) : Does Tryz.prog 113 [slA .u8 l] [] (vG (vGet l)) [] := by
  refine Does.runA Tryz.func113 b113 n113 Tryz.ntmps113 ?_; simp only [c113, go_sem, Nat.reduceAdd, Nat.reduceMul, Int.reduceToNat, Nat.reduceLeDiff, Int.reduceLE, Int.reduceLT, ↓reduceIte, Int.reduceBEq, Int.reduceBNe, Int.reduceAdd, Int.reduceSub, Int.reduceMul]; try refine okTr_and rfl ?_
  refine loop_of (α := Nat) (fun k => [slA .u8 l, .any, uA 0, iA 0, .ref 0 0, iA k, .any, .any, .any, .any, .any, .any, .any, .any, .any, .any, .any, .any, .any, .any, .any, .any, .any, .any, .any, .any, .any, .any, .any, .any, .any, .any, .any, .any, .any, .any, .any, .any, .any, .any, .any, .any, .any, .any, .any, .any, .any, .any, .any, .any, .any, .any, .any, .any, .any, .any, .any, .any, .any, .any, .any, .any]) (fun _ => [.cells [iA 0, iA 0]]) (fun k => k ≤ l.length ∧ k ≤ 9 ∧ UptoL l k) (fun k => l.length - k) 0 ⟨by simp, by simp, uptoL_zero l⟩ (Wk.forget (by simp [leT])) ?_
  rintro k ⟨hk, hk9, hu⟩
  (simp only [go_sem, Nat.reduceAdd, Nat.reduceMul, Int.reduceToNat, Nat.reduceLeDiff, Int.reduceLE, Int.reduceLT, ↓reduceIte, Int.reduceBEq, Int.reduceBNe, Int.reduceAdd, Int.reduceSub, Int.reduceMul, ints_length]; try refine okTr_and rfl ?_)
  refine cdK_split (fun h => ?_) (fun h => ?_)
  · have hlt : k < l.length := by simpa using h
    obtain ⟨z, hz⟩ : ∃ z, l.getD k 0 = z := ⟨_, rfl⟩
    have hzb : 0 ≤ z ∧ z < 256 := hz ▸ hl _ (getD_mem l k hlt)
    have eg : (ints .u8 l).getD (k : Int).toNat .any = u8A z := by rw [← hz]; exact u8_get l k (by omega) (by omega)
    have t1 : ((k : Int) == 9) = decide (k = 9) := by rw [Bool.eq_iff_iff]; simp; omega
    have t2 : decide ((0 : Int) < k) = decide (0 < k) := by rw [Bool.eq_iff_iff]; simp
    (simp only [go_sem, Nat.reduceAdd, Nat.reduceMul, Int.reduceToNat, Nat.reduceLeDiff, Int.reduceLE, Int.reduceLT, ↓reduceIte, Int.reduceBEq, Int.reduceBNe, Int.reduceAdd, Int.reduceSub, Int.reduceMul, t1]; try refine okTr_and rfl ?_)
    by_cases c1 : k = 9 ∧ 1 < z
    · have hv := vGet_over hu hlt c1.1 (by rw [hz]; exact c1.2)
      have q1 : decide (k = 9) = true := by simpa using c1.1
      have q2 : decide (1 < z) = true := by simpa using c1.2
      (simp only [go_sem, Nat.reduceAdd, Nat.reduceMul, Int.reduceToNat, Nat.reduceLeDiff, Int.reduceLE, Int.reduceLT, ↓reduceIte, Int.reduceBEq, Int.reduceBNe, Int.reduceAdd, Int.reduceSub, Int.reduceMul, q1, q2, eg, ints_length]; try refine okTr_and rfl ?_)
      (repeat ((with_reducible refine And.intro ?_ ?_); (· exact sd)))
      refine CallK.p (ref01_At _ _) ?_
      (simp only [go_sem, Nat.reduceAdd, Nat.reduceMul, Int.reduceToNat, Nat.reduceLeDiff, Int.reduceLE, Int.reduceLT, ↓reduceIte, Int.reduceBEq, Int.reduceBNe, Int.reduceAdd, Int.reduceSub, Int.reduceMul]; try refine okTr_and rfl ?_)
      ((refine FinK.finB r113 [] ?_ ?_); (· first | with_reducible rfl | (simp [hv, flt]; done) | rfl); (· simp [resAL, resA1, loadA, oneOr, hv, flt]))
    · have p1 : (decide (k = 9) = true ∧ decide (1 < z) = false) ∨ (decide (k = 9) = false ∧ True) := by
        simp only [decide_eq_true_eq, decide_eq_false_iff_not, and_true]; omega
      by_cases c2 : 0 < k ∧ z = 0
      · have hv := vGet_min hu hlt c2.1 (by rw [hz]; exact c2.2)
        have q3 : decide (0 < k) = true := by simpa using c2.1
        have q4 : (z == 0) = true := by simpa using c2.2
        rcases p1 with ⟨q1, q2⟩ | ⟨q1, q2⟩ <;>
        · (simp only [go_sem, Nat.reduceAdd, Nat.reduceMul, Int.reduceToNat, Nat.reduceLeDiff, Int.reduceLE, Int.reduceLT, ↓reduceIte, Int.reduceBEq, Int.reduceBNe, Int.reduceAdd, Int.reduceSub, Int.reduceMul, q1, q2, t2, q3, q4, eg, ints_length]; try refine okTr_and rfl ?_)
          (repeat ((with_reducible refine And.intro ?_ ?_); (· exact sd)))
          refine CallK.p (ref01_At _ _) ?_
          (simp only [go_sem, Nat.reduceAdd, Nat.reduceMul, Int.reduceToNat, Nat.reduceLeDiff, Int.reduceLE, Int.reduceLT, ↓reduceIte, Int.reduceBEq, Int.reduceBNe, Int.reduceAdd, Int.reduceSub, Int.reduceMul]; try refine okTr_and rfl ?_)
          ((refine FinK.finB r113 [] ?_ ?_); (· first | with_reducible rfl | (simp [hv, flt]; done) | rfl); (· simp [resAL, resA1, loadA, oneOr, hv, flt]))
      · have p2 : (decide (0 < k) = true ∧ (z == 0) = false) ∨ (decide (0 < k) = false ∧ True) := by
          simp only [decide_eq_true_eq, decide_eq_false_iff_not, and_true, beq_eq_false_iff_ne]; omega
        rcases p1 with ⟨q1, q2⟩ | ⟨q1, q2⟩ <;> rcases p2 with ⟨q3, q4⟩ | ⟨q3, q4⟩ <;>
        · (simp only [go_sem, Nat.reduceAdd, Nat.reduceMul, Int.reduceToNat, Nat.reduceLeDiff, Int.reduceLE, Int.reduceLT, ↓reduceIte, Int.reduceBEq, Int.reduceBNe, Int.reduceAdd, Int.reduceSub, Int.reduceMul, q1, q2, t2, q3, q4, eg, ints_length]; try refine okTr_and rfl ?_)
          (repeat ((with_reducible refine And.intro ?_ ?_); (· exact sd)))
          refine cdK_split (fun h => ?_) (fun h => ?_)
          · have c3 : z < 128 := by simpa using h
            have hv := vGet_last hu hlt (by rw [hz]; exact c1) (by rw [hz]; exact c2) (by rw [hz]; exact c3) (by rw [hz]; omega)
            have hV := valTo_u64 (l := l) (k := k) hk9 (by rw [hz]; exact c1) (by rw [hz]; exact c3) (by rw [hz]; omega)
            (simp only [go_sem, Nat.reduceAdd, Nat.reduceMul, Int.reduceToNat, Nat.reduceLeDiff, Int.reduceLE, Int.reduceLT, ↓reduceIte, Int.reduceBEq, Int.reduceBNe, Int.reduceAdd, Int.reduceSub, Int.reduceMul]; try refine okTr_and rfl ?_)
            refine loop_of (α := Nat × Int) (fun a => [slA .u8 l, .any, uA 0, iA 0, .ref 0 0, iA k, uA a.2, iA ((a.1 : Int) - 1), .any, .any, .any, .any, .any, .any, .any, .any, .any, .any, .any, .any, .any, .any, .any, .any, .any, .any, .any, .any, .any, .any, .any, .any, .any, .any, .any, .any, .any, .any, .any, .any, .any, .any, .any, .any, .any, .any, .any, .any, .any, .any, .any, .any, .any, .any, .any, .any, .any, .any, .any, .any, .any, .any]) (fun _ => [.cells [iA 0, iA 0]]) (fun a => a.1 ≤ k + 1 ∧ 0 ≤ a.2 ∧ valTo l (k + 1) = 128 ^ a.1 * a.2 + valTo l a.1) (fun a => a.1) (k + 1, 0) ⟨Nat.le_refl _, Int.le_refl _, by simp⟩ (Wk.forget (by simp [leT])) ?_
            rintro ⟨j, X⟩ ⟨hj, hX, he⟩
            simp only at hj hX he
            (simp only [go_sem, Nat.reduceAdd, Nat.reduceMul, Int.reduceToNat, Nat.reduceLeDiff, Int.reduceLE, Int.reduceLT, ↓reduceIte, Int.reduceBEq, Int.reduceBNe, Int.reduceAdd, Int.reduceSub, Int.reduceMul]; try refine okTr_and rfl ?_)
            refine cdK_split (fun h => ?_) (fun h => ?_)
            · obtain ⟨j', rfl⟩ : ∃ j', j = j' + 1 := ⟨j - 1, by simp at h; omega⟩
              obtain ⟨he2, hub⟩ := horner l (k + 1) j' X he hX hV
              have ej : ((j' + 1 : Nat) : Int) - 1 = (j' : Int) := by omega
              obtain ⟨y, hy⟩ : ∃ y, l.getD j' 0 = y := ⟨_, rfl⟩
              have hyb : 0 ≤ y ∧ y < 256 := hy ▸ hl _ (getD_mem l j' (by omega))
              have eg2 : (ints .u8 l).getD (j' : Int).toNat .any = u8A y := by rw [← hy]; exact u8_get l j' (by omega) (by omega)
              rw [hy] at he2 hub
              have em : y.tmod 128 = y % 128 := Int.tmod_eq_emod_of_nonneg (by omega)
              have ec : IntKind.u64.wrap (y % 128) = y % 128 := IntWalk.u64_in _ (by omega)
              have ew : IntKind.u64.wrap (128 * X) = 128 * X := IntWalk.u64_in _ (by omega)
              have ew2 : IntKind.u64.wrap (128 * X + y % 128) = 128 * X + y % 128 := IntWalk.u64_in _ (by omega)
              have ew3 : IntKind.i64.wrap ((j' : Int) - 1) = (j' : Int) - 1 := IntWalk.i64_in _ (by omega)
              (simp only [go_sem, Nat.reduceAdd, Nat.reduceMul, Int.reduceToNat, Nat.reduceLeDiff, Int.reduceLE, Int.reduceLT, ↓reduceIte, Int.reduceBEq, Int.reduceBNe, Int.reduceAdd, Int.reduceSub, Int.reduceMul, ej, eg2, em, ec, ew, ew2, ew3, ints_length]; try refine okTr_and rfl ?_)
              (repeat ((with_reducible refine And.intro ?_ ?_); (· exact sd)))
              exact ⟨(j', 128 * X + y % 128), ⟨by simp only; omega, by simp only; omega, he2⟩, by simp only; omega, Wk.forget (by simp [leT])⟩
            · obtain rfl : j = 0 := by simp at h; omega
              have ek1 : IntKind.i64.wrap ((k : Int) + 1) = (k : Int) + 1 := IntWalk.i64_in _ (by omega)
              have he' : valTo l (k + 1) = X := by rw [he]; simp [valTo]
              (simp only [go_sem, Nat.reduceAdd, Nat.reduceMul, Int.reduceToNat, Nat.reduceLeDiff, Int.reduceLE, Int.reduceLT, ↓reduceIte, Int.reduceBEq, Int.reduceBNe, Int.reduceAdd, Int.reduceSub, Int.reduceMul, ek1]; try refine okTr_and rfl ?_)
              ((refine FinK.finB r113 [] ?_ ?_); (· first | with_reducible rfl | (simp [hv, he']; done) | rfl); (· simp [resAL, resA1, loadA, oneOr, hv, he']))
          · have c3 : ¬ z < 128 := by simpa using h
            have hu2 := uptoL_more hu hlt (by rw [hz]; exact c1) (by rw [hz]; exact c2) (by rw [hz]; exact c3)
            have ek1 : IntKind.i64.wrap ((k : Int) + 1) = ((k + 1 : Nat) : Int) := by rw [IntWalk.i64_in _ (by omega)]; omega
            (simp only [go_sem, Nat.reduceAdd, Nat.reduceMul, Int.reduceToNat, Nat.reduceLeDiff, Int.reduceLE, Int.reduceLT, ↓reduceIte, Int.reduceBEq, Int.reduceBNe, Int.reduceAdd, Int.reduceSub, Int.reduceMul, ek1]; try refine okTr_and rfl ?_)
            exact ⟨k + 1, ⟨by omega, by omega, hu2⟩, by omega, Wk.forget (by simp [leT])⟩
  · have ek : k = l.length := by simp at h; omega
    subst ek
    have hv := vGet_end hu
    (simp only [go_sem, Nat.reduceAdd, Nat.reduceMul, Int.reduceToNat, Nat.reduceLeDiff, Int.reduceLE, Int.reduceLT, ↓reduceIte, Int.reduceBEq, Int.reduceBNe, Int.reduceAdd, Int.reduceSub, Int.reduceMul, ints_length]; try refine okTr_and rfl ?_)
    refine CallK.p (ref01_At _ _) ?_
    (simp only [go_sem, Nat.reduceAdd, Nat.reduceMul, Int.reduceToNat, Nat.reduceLeDiff, Int.reduceLE, Int.reduceLT, ↓reduceIte, Int.reduceBEq, Int.reduceBNe, Int.reduceAdd, Int.reduceSub, Int.reduceMul]; try refine okTr_and rfl ?_)
    ((refine FinK.finB r113 [] ?_ ?_); (· first | with_reducible rfl | (simp [hv, flt]; done) | rfl); (· simp [resAL, resA1, loadA, oneOr, hv, flt]))
theorem ref04_Get (l : List Int) (hl : Bys l) (hn : l.length ≤ 140737488355328) : Ct Tryz.prog 113 [slA .u8 l] [] (fun _ => vG (vGet l)) [] (fun _ => []) := (ref04_Get0 l hl hn).toCt cl clo
end Go.Proofs.YtnfagphepkeedaaGreat
end
section
namespace Go.Proofs.YtnfagphepkeedaaGreat
open Go.RowKit

theorem ref04_Read0 (s : RS) (hs : ROk s) : Does Tryz.prog 43 [cv s] [] (.tup [cv s.vint.1, uA s.vint.2]) [] := by
  obtain ⟨X, N, C, Af, hq⟩ : ∃ X N C Af, vGet s.rest = (X, N, (C, Af)) := ⟨_, _, _, _, rfl⟩
  have hrl := rest_len s hs.at0 hs.at1
  have h0 := hs.at0
  have h1 := hs.at1
  have h2 := hs.len
  refine Does.runA Tryz.func43 b43 n43 Tryz.ntmps43 ?_; simp only [c43, go_sem, Nat.reduceAdd, Nat.reduceMul, Int.reduceToNat, Nat.reduceLeDiff, Int.reduceLE, Int.reduceLT, ↓reduceIte, Int.reduceBEq, Int.reduceBNe, Int.reduceAdd, Int.reduceSub, Int.reduceMul]; try refine okTr_and rfl ?_
  refine cdK_split (fun h => ?_) (fun h => ?_)
  · have h' : ¬ s.code = 0 := by simpa using h
    have hv := vint_bad h'
    (simp only [go_sem, Nat.reduceAdd, Nat.reduceMul, Int.reduceToNat, Nat.reduceLeDiff, Int.reduceLE, Int.reduceLT, ↓reduceIte, Int.reduceBEq, Int.reduceBNe, Int.reduceAdd, Int.reduceSub, Int.reduceMul]; try refine okTr_and rfl ?_)
    ((refine FinK.finB r43 [] ?_ ?_); (· first | with_reducible rfl | (simp [hv]; done) | rfl); (· simp [resAL, resA1, loadA, oneOr, hv]))
  · have h' : s.code = 0 := by simpa using h
    obtain ⟨p1, p2, p3⟩ := vint_parts hs h' hq
    have hdr : (ints .u8 s.l).drop s.at_.toNat = ints .u8 s.rest := by unfold RS.rest; exact ints_drop _ _ _
    (simp only [go_sem, Nat.reduceAdd, Nat.reduceMul, Int.reduceToNat, Nat.reduceLeDiff, Int.reduceLE, Int.reduceLT, ↓reduceIte, Int.reduceBEq, Int.reduceBNe, Int.reduceAdd, Int.reduceSub, Int.reduceMul, hdr, ints_length]; try refine okTr_and rfl ?_)
    (repeat ((with_reducible refine And.intro ?_ ?_); (· exact sd)))
    refine CallK.p (ref04_Get s.rest (hs.bys.drop _) (by omega)) ?_
    (simp only [go_sem, Nat.reduceAdd, Nat.reduceMul, Int.reduceToNat, Nat.reduceLeDiff, Int.reduceLE, Int.reduceLT, ↓reduceIte, Int.reduceBEq, Int.reduceBNe, Int.reduceAdd, Int.reduceSub, Int.reduceMul, hq]; try refine okTr_and rfl ?_)
    refine cdK_split (fun h => ?_) (fun h => ?_)
    · have c0 : C = 0 := by simpa using h
      obtain ⟨hv, k1, k2, k3, k4⟩ := p1 c0
      have e : IntKind.i64.wrap (s.at_ + N) = s.at_ + N := IntWalk.i64_in _ (by omega)
      (simp only [go_sem, Nat.reduceAdd, Nat.reduceMul, Int.reduceToNat, Nat.reduceLeDiff, Int.reduceLE, Int.reduceLT, ↓reduceIte, Int.reduceBEq, Int.reduceBNe, Int.reduceAdd, Int.reduceSub, Int.reduceMul, e]; try refine okTr_and rfl ?_)
      ((refine FinK.finB r43 [] ?_ ?_); (· first | with_reducible rfl | (simp [hv, RS.adv]; done) | rfl); (· simp [resAL, resA1, loadA, oneOr, hv, RS.adv]))
    · have c0 : ¬ C = 0 := by simpa using h
      (simp only [go_sem, Nat.reduceAdd, Nat.reduceMul, Int.reduceToNat, Nat.reduceLeDiff, Int.reduceLE, Int.reduceLT, ↓reduceIte, Int.reduceBEq, Int.reduceBNe, Int.reduceAdd, Int.reduceSub, Int.reduceMul]; try refine okTr_and rfl ?_)
      refine cdK_split (fun h => ?_) (fun h => ?_)
      · have c1 : C = 1 := by simpa using h
        have hv := p2 c1
        subst c1
        (simp only [go_sem, Nat.reduceAdd, Nat.reduceMul, Int.reduceToNat, Nat.reduceLeDiff, Int.reduceLE, Int.reduceLT, ↓reduceIte, Int.reduceBEq, Int.reduceBNe, Int.reduceAdd, Int.reduceSub, Int.reduceMul, ints_length]; try refine okTr_and rfl ?_)
        refine CallK.p (ref01_At _ _) ?_
        (simp only [go_sem, Nat.reduceAdd, Nat.reduceMul, Int.reduceToNat, Nat.reduceLeDiff, Int.reduceLE, Int.reduceLT, ↓reduceIte, Int.reduceBEq, Int.reduceBNe, Int.reduceAdd, Int.reduceSub, Int.reduceMul]; try refine okTr_and rfl ?_)
        ((refine FinK.finB r43 [] ?_ ?_); (· first | with_reducible rfl | (simp [hv, flt]; done) | rfl); (· simp [resAL, resA1, loadA, oneOr, hv, flt]))
      · have c1 : ¬ C = 1 := by simpa using h
        obtain ⟨hv, k1, k2⟩ := p3 c0 c1
        have e : IntKind.i64.wrap (s.at_ + Af) = s.at_ + Af := IntWalk.i64_in _ (by omega)
        have e2 : IntKind.i64.wrap (s.at_ + Af + 1) = s.at_ + Af + 1 := IntWalk.i64_in _ (by omega)
        have e3 : IntKind.i64.wrap (s.at_ + Af + 1 - 1) = s.at_ + Af := by rw [IntWalk.i64_in _ (by omega)]; omega
        have q : (C != 1) = true := by simpa using c1
        (simp only [go_sem, Nat.reduceAdd, Nat.reduceMul, Int.reduceToNat, Nat.reduceLeDiff, Int.reduceLE, Int.reduceLT, ↓reduceIte, Int.reduceBEq, Int.reduceBNe, Int.reduceAdd, Int.reduceSub, Int.reduceMul, e, e2]; try refine okTr_and rfl ?_)
        refine CallK.p (ref01_At _ _) ?_
        (simp only [go_sem, Nat.reduceAdd, Nat.reduceMul, Int.reduceToNat, Nat.reduceLeDiff, Int.reduceLE, Int.reduceLT, ↓reduceIte, Int.reduceBEq, Int.reduceBNe, Int.reduceAdd, Int.reduceSub, Int.reduceMul, q, e3]; try refine okTr_and rfl ?_)
        ((refine FinK.finB r43 [] ?_ ?_); (· first | with_reducible rfl | (simp [hv, flt, c0]; done) | rfl); (· simp [resAL, resA1, loadA, oneOr, hv, flt, c0]))
theorem ref04_Read (s : RS) (hs : ROk s) : Ct Tryz.prog 43 [cv s] [] (fun _ => .tup [cv s.vint.1, uA s.vint.2]) [] (fun _ => []) := (ref04_Read0 s hs).toCt cl cl

theorem ref04_Most0 (s : RS) (m : Int) (hs : ROk s) : Does Tryz.prog 125 [cv s, uA m] [] (.tup [cv (s.most m).1, uA (s.most m).2]) [] := by
  refine Does.runA Tryz.func125 b125 n125 Tryz.ntmps125 ?_; simp only [c125, go_sem, Nat.reduceAdd, Nat.reduceMul, Int.reduceToNat, Nat.reduceLeDiff, Int.reduceLE, Int.reduceLT, ↓reduceIte, Int.reduceBEq, Int.reduceBNe, Int.reduceAdd, Int.reduceSub, Int.reduceMul]; try refine okTr_and rfl ?_
  refine CallK.p (ref04_Read s hs) ?_
  (simp only [go_sem, Nat.reduceAdd, Nat.reduceMul, Int.reduceToNat, Nat.reduceLeDiff, Int.reduceLE, Int.reduceLT, ↓reduceIte, Int.reduceBEq, Int.reduceBNe, Int.reduceAdd, Int.reduceSub, Int.reduceMul]; try refine okTr_and rfl ?_)
  refine cdK_split (fun h => ?_) (fun h => ?_)
  · have h' : m < s.vint.2 := by simpa using h
    (simp only [go_sem, Nat.reduceAdd, Nat.reduceMul, Int.reduceToNat, Nat.reduceLeDiff, Int.reduceLE, Int.reduceLT, ↓reduceIte, Int.reduceBEq, Int.reduceBNe, Int.reduceAdd, Int.reduceSub, Int.reduceMul]; try refine okTr_and rfl ?_)
    refine CallK.p (ref02_Fail _ _ _) ?_
    (simp only [go_sem, Nat.reduceAdd, Nat.reduceMul, Int.reduceToNat, Nat.reduceLeDiff, Int.reduceLE, Int.reduceLT, ↓reduceIte, Int.reduceBEq, Int.reduceBNe, Int.reduceAdd, Int.reduceSub, Int.reduceMul]; try refine okTr_and rfl ?_)
    ((refine FinK.finB r125 [] ?_ ?_); (· first | with_reducible rfl | (simp [RS.most, h']; done) | rfl); (· simp [resAL, resA1, loadA, oneOr, RS.most, h']))
  · have h' : ¬ m < s.vint.2 := by simpa using h
    (simp only [go_sem, Nat.reduceAdd, Nat.reduceMul, Int.reduceToNat, Nat.reduceLeDiff, Int.reduceLE, Int.reduceLT, ↓reduceIte, Int.reduceBEq, Int.reduceBNe, Int.reduceAdd, Int.reduceSub, Int.reduceMul]; try refine okTr_and rfl ?_)
    ((refine FinK.finB r125 [] ?_ ?_); (· first | with_reducible rfl | (simp [RS.most, h']; done) | rfl); (· simp [resAL, resA1, loadA, oneOr, RS.most, h']))
theorem ref04_Most (s : RS) (m : Int) (hs : ROk s) : Ct Tryz.prog 125 [cv s, uA m] [] (fun _ => .tup [cv (s.most m).1, uA (s.most m).2]) [] (fun _ => []) := (ref04_Most0 s m hs).toCt cl cl

theorem ref04_Int0 (s : RS) (m : Int) (m1 : m < 9223372036854775808) (hs : ROk s) : Does Tryz.prog 60 [cv s, iA m] [] (.tup [cv (s.int m).1, iA (s.int m).2]) [] := by
  refine Does.runA Tryz.func60 b60 n60 Tryz.ntmps60 ?_; simp only [c60, go_sem, Nat.reduceAdd, Nat.reduceMul, Int.reduceToNat, Nat.reduceLeDiff, Int.reduceLE, Int.reduceLT, ↓reduceIte, Int.reduceBEq, Int.reduceBNe, Int.reduceAdd, Int.reduceSub, Int.reduceMul]; try refine okTr_and rfl ?_
  refine cdK_split (fun h => ?_) (fun h => ?_)
  · have h' : 0 ≤ m := by simpa using h
    have e : IntKind.u64.wrap m = m := IntWalk.u64_in _ (by omega)
    have hr := most_range (m := m) hs.bys h'
    have e2 : IntKind.i64.wrap (s.most m).2 = (s.most m).2 := IntWalk.i64_in _ (by omega)
    (simp only [go_sem, Nat.reduceAdd, Nat.reduceMul, Int.reduceToNat, Nat.reduceLeDiff, Int.reduceLE, Int.reduceLT, ↓reduceIte, Int.reduceBEq, Int.reduceBNe, Int.reduceAdd, Int.reduceSub, Int.reduceMul, e]; try refine okTr_and rfl ?_)
    refine CallK.p (ref04_Most s m hs) ?_
    (simp only [go_sem, Nat.reduceAdd, Nat.reduceMul, Int.reduceToNat, Nat.reduceLeDiff, Int.reduceLE, Int.reduceLT, ↓reduceIte, Int.reduceBEq, Int.reduceBNe, Int.reduceAdd, Int.reduceSub, Int.reduceMul, e2]; try refine okTr_and rfl ?_)
    ((refine FinK.finB r60 [] ?_ ?_); (· first | with_reducible rfl | (simp [RS.int, h']; done) | rfl); (· simp [resAL, resA1, loadA, oneOr, RS.int, h']))
  · have h' : ¬ 0 ≤ m := by simpa using h
    (simp only [go_sem, Nat.reduceAdd, Nat.reduceMul, Int.reduceToNat, Nat.reduceLeDiff, Int.reduceLE, Int.reduceLT, ↓reduceIte, Int.reduceBEq, Int.reduceBNe, Int.reduceAdd, Int.reduceSub, Int.reduceMul]; try refine okTr_and rfl ?_)
    refine CallK.p (ref04_Read s hs) ?_
    (simp only [go_sem, Nat.reduceAdd, Nat.reduceMul, Int.reduceToNat, Nat.reduceLeDiff, Int.reduceLE, Int.reduceLT, ↓reduceIte, Int.reduceBEq, Int.reduceBNe, Int.reduceAdd, Int.reduceSub, Int.reduceMul]; try refine okTr_and rfl ?_)
    refine CallK.p (ref02_Fail _ _ _) ?_
    (simp only [go_sem, Nat.reduceAdd, Nat.reduceMul, Int.reduceToNat, Nat.reduceLeDiff, Int.reduceLE, Int.reduceLT, ↓reduceIte, Int.reduceBEq, Int.reduceBNe, Int.reduceAdd, Int.reduceSub, Int.reduceMul]; try refine okTr_and rfl ?_)
    ((refine FinK.finB r60 [] ?_ ?_); (· first | with_reducible rfl | (simp [RS.int, h']; done) | rfl); (· simp [resAL, resA1, loadA, oneOr, RS.int, h']))
theorem ref04_Int (s : RS) (m : Int) (m1 : m < 9223372036854775808) (hs : ROk s) : Ct Tryz.prog 60 [cv s, iA m] [] (fun _ => .tup [cv (s.int m).1, iA (s.int m).2]) [] (fun _ => []) := (ref04_Int0 s m m1 hs).toCt cl cl

end Go.Proofs.YtnfagphepkeedaaGreat
end
end
section
section
namespace Go.Proofs.YtnfagphepkeedaaGreat
open Go.RowKit

end Go.Proofs.YtnfagphepkeedaaGreat
end
section
namespace Go.Proofs.YtnfagphepkeedaaGreat
open Go.RowKit

abbrev slU (l : List Int) : AV := .sl .none 1 (ints .u64 l)
theorem u64_get (l : List Int) (i : Nat) (h : i < l.length) : (ints .u64 l).getD (i : Int).toNat .any = uA (l.getD i 0) := by
  rw [Int.toNat_natCast]; exact ints_getD .u64 l i h
theorem ints_snoc (k : IntKind) (l : List Int) (z : Int) : ints k l ++ [.lit (.int k z)] = ints k (l ++ [z]) := by simp [ints]
end Go.Proofs.YtnfagphepkeedaaGreat
end
section
namespace Go.Proofs.YtnfagphepkeedaaGreat
open Go.RowKit

theorem good_false {s : RS} (h : ¬ s.code = 0) : s.good = false := by simp [RS.good, h]
theorem good_true {s : RS} (h : s.code = 0) : s.good = true := by simp [RS.good, h]
end Go.Proofs.YtnfagphepkeedaaGreat
end
section
namespace Go.Proofs.YtnfagphepkeedaaGreat
open Go.RowKit

theorem ref05_Same0 (l m : List Int) (hn : l.length ≤ 140737488355328) : Does Tryz.prog 198 [slU l, slU m] [] (bA (sameB l m)) [] := by
  refine Does.runA Tryz.func198 b198 n198 Tryz.ntmps198 ?_; simp only [c198, go_sem, Nat.reduceAdd, Nat.reduceMul, Int.reduceToNat, Nat.reduceLeDiff, Int.reduceLE, Int.reduceLT, ↓reduceIte, Int.reduceBEq, Int.reduceBNe, Int.reduceAdd, Int.reduceSub, Int.reduceMul, ints_length]; try refine okTr_and rfl ?_
  refine cdK_split (fun h => ?_) (fun h => ?_)
  · have hne : sameB l m = false := by
      unfold sameB; simp at h ⊢; intro e; subst e; exact h rfl
    (simp only [go_sem, Nat.reduceAdd, Nat.reduceMul, Int.reduceToNat, Nat.reduceLeDiff, Int.reduceLE, Int.reduceLT, ↓reduceIte, Int.reduceBEq, Int.reduceBNe, Int.reduceAdd, Int.reduceSub, Int.reduceMul]; try refine okTr_and rfl ?_)
    ((refine FinK.finB r198 [] ?_ ?_); (· first | with_reducible rfl | (simp [hne]; done) | rfl); (· simp [resAL, resA1, loadA, oneOr, hne]))
  · have hlen : l.length = m.length := by
      have h' : (l.length : Int) = m.length := by simpa using h
      omega
    (simp only [go_sem, Nat.reduceAdd, Nat.reduceMul, Int.reduceToNat, Nat.reduceLeDiff, Int.reduceLE, Int.reduceLT, ↓reduceIte, Int.reduceBEq, Int.reduceBNe, Int.reduceAdd, Int.reduceSub, Int.reduceMul]; try refine okTr_and rfl ?_)
    refine loop_of (α := Nat) (fun k => [slU l, slU m, .any, .any, .any, iA k, .any, .any, .any, .any, .any, .any, .any, .any, .any, .any, .any, .any, .any, .any, .any, .any, .any, .any, .any, .any]) (fun _ => []) (fun k => k ≤ l.length ∧ l.take k = m.take k) (fun k => l.length - k) 0 ⟨by simp, by simp⟩ (Wk.to (by simp) (by simp [leT])) ?_
    rintro k ⟨hk, ht⟩
    (simp only [go_sem, Nat.reduceAdd, Nat.reduceMul, Int.reduceToNat, Nat.reduceLeDiff, Int.reduceLE, Int.reduceLT, ↓reduceIte, Int.reduceBEq, Int.reduceBNe, Int.reduceAdd, Int.reduceSub, Int.reduceMul, ints_length]; try refine okTr_and rfl ?_)
    refine cdK_split (fun h => ?_) (fun h => ?_)
    · have hlt : k < l.length := by simpa using h
      have g1 := u64_get l k hlt
      have g2 := u64_get m k (by omega)
      have ei : IntKind.i64.wrap ((k : Int) + 1) = ((k + 1 : Nat) : Int) := by rw [IntWalk.i64_in _ (by omega)]; omega
      (simp only [go_sem, Nat.reduceAdd, Nat.reduceMul, Int.reduceToNat, Nat.reduceLeDiff, Int.reduceLE, Int.reduceLT, ↓reduceIte, Int.reduceBEq, Int.reduceBNe, Int.reduceAdd, Int.reduceSub, Int.reduceMul, g1, g2, ints_length]; try refine okTr_and rfl ?_)
      (repeat ((with_reducible refine And.intro ?_ ?_); (· exact sd)))
      refine cdK_split (fun h => ?_) (fun h => ?_)
      · have hx : l.getD k 0 ≠ m.getD k 0 := by simpa using h
        have hne : sameB l m = false := by unfold sameB; simp only [decide_eq_false_iff_not]; rintro rfl; exact hx rfl
        (simp only [go_sem, Nat.reduceAdd, Nat.reduceMul, Int.reduceToNat, Nat.reduceLeDiff, Int.reduceLE, Int.reduceLT, ↓reduceIte, Int.reduceBEq, Int.reduceBNe, Int.reduceAdd, Int.reduceSub, Int.reduceMul]; try refine okTr_and rfl ?_)
        ((refine FinK.finB r198 [] ?_ ?_); (· first | with_reducible rfl | (simp [hne]; done) | rfl); (· simp [resAL, resA1, loadA, oneOr, hne]))
      · have hx : l.getD k 0 = m.getD k 0 := by simpa using h
        (simp only [go_sem, Nat.reduceAdd, Nat.reduceMul, Int.reduceToNat, Nat.reduceLeDiff, Int.reduceLE, Int.reduceLT, ↓reduceIte, Int.reduceBEq, Int.reduceBNe, Int.reduceAdd, Int.reduceSub, Int.reduceMul, ei]; try refine okTr_and rfl ?_)
        refine ⟨k + 1, ⟨hlt, ?_⟩, by omega, Wk.to (by simp) (by simp [leT])⟩
        rw [take_snoc l k hlt, take_snoc m k (by omega), ht, hx]
    · have hk' : k = l.length := by simp at h; omega
      have he : sameB l m = true := by
        unfold sameB
        rw [hk', List.take_length, List.take_of_length_le (by omega)] at ht
        simpa using ht
      (simp only [go_sem, Nat.reduceAdd, Nat.reduceMul, Int.reduceToNat, Nat.reduceLeDiff, Int.reduceLE, Int.reduceLT, ↓reduceIte, Int.reduceBEq, Int.reduceBNe, Int.reduceAdd, Int.reduceSub, Int.reduceMul]; try refine okTr_and rfl ?_)
      ((refine FinK.finB r198 [] ?_ ?_); (· first | with_reducible rfl | (simp [he]; done) | rfl); (· simp [resAL, resA1, loadA, oneOr, he]))
theorem ref05_Same (l m : List Int) (hn : l.length ≤ 140737488355328) : Ct Tryz.prog 198 [slU l, slU m] [] (fun _ => bA (sameB l m)) [] (fun _ => []) := (ref05_Same0 l m hn).toCt cl clo

abbrev ownA (i : Nat) (l : List Int) : AV := .sl (.row i) 1 (ints .u8 l)
end Go.Proofs.YtnfagphepkeedaaGreat
end
end
section
section
namespace Go.Proofs.YtnfagphepkeedaaGreat
open Go.RowKit

theorem mx0 (n : Int) : (if (0 : Int) > n then 0 else n) = max n 0 := by split <;> omega
theorem mn (n k : Int) : (if k < n then k else n) = min n k := by split <;> omega
theorem len_u64 {β : Type} (b : List β) (h : b.length < 18446744073709551616) : IntKind.u64.wrap (b.length : Int) = (b.length : Int) := IntWalk.u64_in _ (by omega)
theorem i64_succ (k : Nat) (h : k < 140737488355329) : IntKind.i64.wrap ((k : Int) + 1) = ((k + 1 : Nat) : Int) := by rw [IntWalk.i64_in _ (by omega)]; omega

theorem blob_Put0 (s : WS) (b : List Int) (hs : s.fine) (hb : b.length ≤ 140737488355328) : Does Tryz.prog 69 [.ref 0 0, slA .u8 b] [wob 1 s, wrow s] (.tup []) [wob 1 ((s.put (vb b.length)).put b), wrow ((s.put (vb b.length)).put b)] := by
  have e := len_u64 b (by omega)
  refine Does.runA Tryz.func69 b69 n69 Tryz.ntmps69 ?_; simp only [c69, go_sem, Nat.reduceAdd, Nat.reduceMul, Int.reduceToNat, Nat.reduceLeDiff, Int.reduceLE, Int.reduceLT, ↓reduceIte, Int.reduceBEq, Int.reduceBNe, Int.reduceAdd, Int.reduceSub, Int.reduceMul, ints_length, e]; try refine okTr_and rfl ?_
  refine CallK.u2 (varint_Put s b.length 0 1 (by decide) (by omega) (by omega) hs.ok (hs.room _)) rfl rfl ?_
  (simp only [go_sem, Nat.reduceAdd, Nat.reduceMul, Int.reduceToNat, Nat.reduceLeDiff, Int.reduceLE, Int.reduceLT, ↓reduceIte, Int.reduceBEq, Int.reduceBNe, Int.reduceAdd, Int.reduceSub, Int.reduceMul]; try refine okTr_and rfl ?_)
  refine CallK.u2 (Writer_Put _ b 0 1 (by decide) (hs.put _).ok ((hs.put _).room _)) rfl rfl ?_
  (simp only [go_sem, Nat.reduceAdd, Nat.reduceMul, Int.reduceToNat, Nat.reduceLeDiff, Int.reduceLE, Int.reduceLT, ↓reduceIte, Int.reduceBEq, Int.reduceBNe, Int.reduceAdd, Int.reduceSub, Int.reduceMul]; try refine okTr_and rfl ?_)
  exact FinK.finA r69 [0, 1]
theorem blob_Put (s : WS) (b : List Int) (i j : Nat) (h : i ≠ j) (hs : s.fine) (hb : b.length ≤ 140737488355328) : Ct Tryz.prog 69 [.ref i 0, slA .u8 b] [(i, wob j s), (j, wrow s)] (fun _ => .tup []) [(i, wob j ((s.put (vb b.length)).put b)), (j, wrow ((s.put (vb b.length)).put b))] (fun _ => []) := Ct.u2 (blob_Put0 s b hs hb) i j h cl cl cl cl cl (wob_dead _ _) (wrow_dead _) clo
theorem blob_Read0 (s : RS) (m : Int) (m1 : m < 9223372036854775808) (hs : ROk s) : Does Tryz.prog 105 [.ref 0 0, iA m] [rdr s] (slA .u8 (s.blob m).2) [rdr (s.blob m).1] := by
  refine Does.runA Tryz.func105 b105 n105 Tryz.ntmps105 ?_; simp only [c105, go_sem, Nat.reduceAdd, Nat.reduceMul, Int.reduceToNat, Nat.reduceLeDiff, Int.reduceLE, Int.reduceLT, ↓reduceIte, Int.reduceBEq, Int.reduceBNe, Int.reduceAdd, Int.reduceSub, Int.reduceMul]; try refine okTr_and rfl ?_
  refine CallK.u1 (varint_ReadInt s m 0 m1 hs.ok hs.bys) rfl ?_
  (simp only [go_sem, Nat.reduceAdd, Nat.reduceMul, Int.reduceToNat, Nat.reduceLeDiff, Int.reduceLE, Int.reduceLT, ↓reduceIte, Int.reduceBEq, Int.reduceBNe, Int.reduceAdd, Int.reduceSub, Int.reduceMul]; try refine okTr_and rfl ?_)
  refine CallK.u1 (Reader_Take _ _ 0 (hs.int m).1.ok) rfl ?_
  (simp only [go_sem, Nat.reduceAdd, Nat.reduceMul, Int.reduceToNat, Nat.reduceLeDiff, Int.reduceLE, Int.reduceLT, ↓reduceIte, Int.reduceBEq, Int.reduceBNe, Int.reduceAdd, Int.reduceSub, Int.reduceMul]; try refine okTr_and rfl ?_)
  ((refine FinK.finB r105 [0] ?_ ?_); (· first | with_reducible rfl | (simp [RS.blob]; done) | rfl); (· simp [resAL, resA1, loadA, oneOr, RS.blob]))
theorem blob_Read (s : RS) (m : Int) (i : Nat) (m1 : m < 9223372036854775808) (hs : ROk s) : Ct Tryz.prog 105 [.ref i 0, iA m] [(i, rdr s)] (fun _ => slA .u8 (s.blob m).2) [(i, rdr (s.blob m).1)] (fun _ => []) := Ct.u1 (blob_Read0 s m m1 hs) i clo (fun ρ => rdr_ren ρ s) (fun ρ => rdr_ren ρ _) (rdr_dead s) cl
theorem or_join256 (i : Nat) (hi : i ≤ 7) (x c : Int) (h0 : 0 ≤ x) (h1 : x < 256 ^ i) (c0 : 0 ≤ c) (c1 : c < 256) :
    bitsI .or .u64 x (IntKind.u64.wrap (IntKind.u64.wrap c * 2 ^ min (8 * (i : Int)).toNat 64)) = x + 256 ^ i * c := by
  obtain ⟨n, rfl⟩ := Int.eq_ofNat_of_zero_le c0
  obtain ⟨m, rfl⟩ := Int.eq_ofNat_of_zero_le h0
  have e2 : min (8 * (i : Int)).toNat 64 = 8 * i := by omega
  have e1 : IntKind.u64.wrap (n : Int) = n := IntWalk.u64_in _ (by omega)
  have hp : (2 : Int) ^ (8 * i) = 256 ^ i := by rw [Int.pow_mul]; rfl
  have hpos : (0 : Int) < 256 ^ i := Int.pow_pos (by omega)
  have hcast : ((256 ^ i : Nat) : Int) = 256 ^ i := by rw [Int.natCast_pow]; rfl
  have h1' : m < 256 ^ i := by omega
  have hB : n * 256 ^ i < 18446744073709551616 := by
    have : i = 0 ∨ i = 1 ∨ i = 2 ∨ i = 3 ∨ i = 4 ∨ i = 5 ∨ i = 6 ∨ i = 7 := by omega
    rcases this with rfl | rfl | rfl | rfl | rfl | rfl | rfl | rfl <;> simp <;> omega
  have hm : (m : Int) < 18446744073709551616 := by
    have : i = 0 ∨ i = 1 ∨ i = 2 ∨ i = 3 ∨ i = 4 ∨ i = 5 ∨ i = 6 ∨ i = 7 := by omega
    rcases this with rfl | rfl | rfl | rfl | rfl | rfl | rfl | rfl <;> simp at h1 <;> omega
  have e0 : (n : Int) * 256 ^ i = ((n * 256 ^ i : Nat) : Int) := by rw [Int.natCast_mul, hcast]
  have e3 : IntKind.u64.wrap ((n : Int) * 2 ^ (8 * i)) = ((n * 256 ^ i : Nat) : Int) := by
    rw [hp, e0]
    exact IntWalk.u64_in _ (by omega)
  rw [e2, e1, e3]
  show bits .or .u64 (m : Int) _ = _
  rw [u64_or_nat m _ (by omega) hB]
  have e4 : m ||| n * 256 ^ i = n * 256 ^ i + m := by
    rw [Nat.or_comm]
    have q : (2 : Nat) ^ (8 * i) = 256 ^ i := by rw [Nat.pow_mul]
    exact nat_join (8 * i) _ _ (by rw [q]; exact Nat.mul_mod_left _ _) (by rw [q]; exact h1')
  rw [e4, Int.natCast_add, ← e0, Int.mul_comm, Int.add_comm]
theorem fix_take (b : List Int) (k : Nat) (h : k < b.length) : fixOf (b.take (k + 1)) = fixOf (b.take k) + 256 ^ k * b.getD k 0 := by
  have hl : (b.take k).length = k := by simp; omega
  rw [take_snoc b k h, fixOf_snoc, hl]
set_option maxRecDepth 100000 in
theorem blob_ReadFixed0 (s : RS) (n : Int) (hs : ROk s) : Does Tryz.prog 36 [.ref 0 0, iA n] [rdr s] (uA (s.fixed (min (max n 0) 8)).2) [rdr (s.fixed (min (max n 0) 8)).1] := by
  have e0 := mx0 n
  have e1 := mn (max n 0) 8
  unfold RS.fixed
  obtain ⟨m, hm⟩ : ∃ m, min (max n 0) 8 = m := ⟨_, rfl⟩
  have hm8 : m ≤ 8 := by omega
  rw [hm] at e1 ⊢
  have htl : (s.take m).2.length ≤ 8 := by
    by_cases hc : (s.take m).1.code = 0
    · have := (take_bytes hs hc).2.2.1; omega
    · rw [take_bad hc]; simp
  have htb := take_bys hs.bys m
  refine Does.runA Tryz.func36 b36 n36 Tryz.ntmps36 ?_; simp only [c36, go_sem, Nat.reduceAdd, Nat.reduceMul, Int.reduceToNat, Nat.reduceLeDiff, Int.reduceLE, Int.reduceLT, ↓reduceIte, Int.reduceBEq, Int.reduceBNe, Int.reduceAdd, Int.reduceSub, Int.reduceMul, e0, e1]; try refine okTr_and rfl ?_
  refine CallK.u1 (Reader_Take s m 0 hs.ok) rfl ?_
  generalize (s.take m).1 = t at *
  generalize (s.take m).2 = b at *
  (simp only [go_sem, Nat.reduceAdd, Nat.reduceMul, Int.reduceToNat, Nat.reduceLeDiff, Int.reduceLE, Int.reduceLT, ↓reduceIte, Int.reduceBEq, Int.reduceBNe, Int.reduceAdd, Int.reduceSub, Int.reduceMul, ints_length]; try refine okTr_and rfl ?_)
  refine loop_of (α := Nat) (fun k => [.any, .any, .any, .any, .any, uA (fixOf (b.take k)), .any, .any, .any, .any, .any, .any, slA .u8 b, iA b.length, iA k, .any, .any, .any, .any, .any, .any, .any, .any, .any, .any, .any, .any, .any]) (fun _ => [rdr t]) (fun k => k ≤ b.length) (fun k => b.length - k) 0 (by simp) (Wk.forget (by simp [leT, fixOf])) ?_
  intro k hk
  (simp only [go_sem, Nat.reduceAdd, Nat.reduceMul, Int.reduceToNat, Nat.reduceLeDiff, Int.reduceLE, Int.reduceLT, ↓reduceIte, Int.reduceBEq, Int.reduceBNe, Int.reduceAdd, Int.reduceSub, Int.reduceMul]; try refine okTr_and rfl ?_)
  refine cdK_split (fun h => ?_) (fun h => ?_)
  · have hlt : k < b.length := by simpa using h
    have g := u8_get b k (by omega) (by omega)
    rw [Int.toNat_natCast] at g
    have hr := fixOf_range (l := b.take k) fun x hx => htb x (List.mem_of_mem_take hx)
    have hkl : (b.take k).length = k := by simp; omega
    rw [hkl] at hr
    have hc := htb _ (getD_mem b k hlt)
    have eo := or_join256 k (by omega) (fixOf (b.take k)) (b.getD k 0) hr.1 hr.2 hc.1 hc.2
    have em : IntKind.i64.wrap (8 * (k : Int)) = 8 * k := IntWalk.i64_in _ (by omega)
    rw [← fix_take b k hlt] at eo
    have ei := i64_succ k (by omega)
    (simp only [go_sem, Nat.reduceAdd, Nat.reduceMul, Int.reduceToNat, Nat.reduceLeDiff, Int.reduceLE, Int.reduceLT, ↓reduceIte, Int.reduceBEq, Int.reduceBNe, Int.reduceAdd, Int.reduceSub, Int.reduceMul, g, ints_length, Int.toNat_natCast, em, eo, ei]; try refine okTr_and rfl ?_)
    (repeat ((with_reducible refine And.intro ?_ ?_); (· exact sd)))
    exact ⟨k + 1, hlt, by omega, Wk.to (by simp) (by simp [leT])⟩
  · have ek : k = b.length := by simp at h; omega
    (simp only [go_sem, Nat.reduceAdd, Nat.reduceMul, Int.reduceToNat, Nat.reduceLeDiff, Int.reduceLE, Int.reduceLT, ↓reduceIte, Int.reduceBEq, Int.reduceBNe, Int.reduceAdd, Int.reduceSub, Int.reduceMul]; try refine okTr_and rfl ?_)
    ((refine FinK.finB r36 [0] ?_ ?_); (· first | with_reducible rfl | (simp [ek]; done) | rfl); (· simp [resAL, resA1, loadA, oneOr, ek]))
theorem blob_ReadFixed (s : RS) (n : Int) (i : Nat) (hs : ROk s) : Ct Tryz.prog 36 [.ref i 0, iA n] [(i, rdr s)] (fun _ => uA (s.fixed (min (max n 0) 8)).2) [(i, rdr (s.fixed (min (max n 0) 8)).1)] (fun _ => []) := Ct.u1 (blob_ReadFixed0 s n hs) i clo (fun ρ => rdr_ren ρ s) (fun ρ => rdr_ren ρ _) (rdr_dead s) clo
end Go.Proofs.YtnfagphepkeedaaGreat
end
section
namespace Go.Proofs.YtnfagphepkeedaaGreat
open Go.RowKit

end Go.Proofs.YtnfagphepkeedaaGreat
end
section
namespace Go.Proofs.YtnfagphepkeedaaGreat
open Go.RowKit

theorem ref06_Read0 (s : RS) (m : Int) (m1 : m < 9223372036854775808) (hs : ROk s) : Does Tryz.prog 45 [cv s, iA m] [] (.tup [cv (s.blob m).1, slA .u8 (s.blob m).2]) [] := by
  refine Does.runA Tryz.func45 b45 n45 Tryz.ntmps45 ?_; simp only [c45, go_sem, Nat.reduceAdd, Nat.reduceMul, Int.reduceToNat, Nat.reduceLeDiff, Int.reduceLE, Int.reduceLT, ↓reduceIte, Int.reduceBEq, Int.reduceBNe, Int.reduceAdd, Int.reduceSub, Int.reduceMul]; try refine okTr_and rfl ?_
  refine CallK.p (ref04_Int s m m1 hs) ?_
  (simp only [go_sem, Nat.reduceAdd, Nat.reduceMul, Int.reduceToNat, Nat.reduceLeDiff, Int.reduceLE, Int.reduceLT, ↓reduceIte, Int.reduceBEq, Int.reduceBNe, Int.reduceAdd, Int.reduceSub, Int.reduceMul]; try refine okTr_and rfl ?_)
  refine CallK.p (ref02_Take _ _ (hs.int m).1.ok) ?_
  (simp only [go_sem, Nat.reduceAdd, Nat.reduceMul, Int.reduceToNat, Nat.reduceLeDiff, Int.reduceLE, Int.reduceLT, ↓reduceIte, Int.reduceBEq, Int.reduceBNe, Int.reduceAdd, Int.reduceSub, Int.reduceMul]; try refine okTr_and rfl ?_)
  ((refine FinK.finB r45 [] ?_ ?_); (· first | with_reducible rfl | (simp [RS.blob]; done) | rfl); (· simp [resAL, resA1, loadA, oneOr, RS.blob]))
theorem ref06_Read (s : RS) (m : Int) (m1 : m < 9223372036854775808) (hs : ROk s) : Ct Tryz.prog 45 [cv s, iA m] [] (fun _ => .tup [cv (s.blob m).1, slA .u8 (s.blob m).2]) [] (fun _ => []) := (ref06_Read0 s m m1 hs).toCt cl cl
theorem fix_horner (b : List Int) (k : Nat) (h : k < b.length) : fixOf (b.drop k) = b.getD k 0 + 256 * fixOf (b.drop (k + 1)) := by
  rw [drop_getD h]; rfl
theorem bys_drop {b : List Int} (h : Bys b) (k : Nat) : Bys (b.drop k) := fun x hx => h x (List.mem_of_mem_drop hx)
theorem pow_le8 (k : Nat) (h : k ≤ 8) : (256 : Int) ^ k ≤ 18446744073709551616 := by
  have : k = 0 ∨ k = 1 ∨ k = 2 ∨ k = 3 ∨ k = 4 ∨ k = 5 ∨ k = 6 ∨ k = 7 ∨ k = 8 := by omega
  rcases this with rfl | rfl | rfl | rfl | rfl | rfl | rfl | rfl | rfl <;> simp
theorem ref06_Fixed0 (s : RS) (n : Int) (hs : ROk s) : Does Tryz.prog 46 [cv s, iA n] [] (.tup [cv (s.fixed (min (max n 0) 8)).1, uA (s.fixed (min (max n 0) 8)).2]) [] := by
  have e0 := mx0 n
  have e1 := mn (max n 0) 8
  unfold RS.fixed
  obtain ⟨m, hm⟩ : ∃ m, min (max n 0) 8 = m := ⟨_, rfl⟩
  have hm8 : m ≤ 8 := by omega
  rw [hm] at e1 ⊢
  have htl : (s.take m).2.length ≤ 8 := by
    by_cases hc : (s.take m).1.code = 0
    · have := (take_bytes hs hc).2.2.1; omega
    · rw [take_bad hc]; simp
  have htb := take_bys hs.bys m
  refine Does.runA Tryz.func46 b46 n46 Tryz.ntmps46 ?_; simp only [c46, go_sem, Nat.reduceAdd, Nat.reduceMul, Int.reduceToNat, Nat.reduceLeDiff, Int.reduceLE, Int.reduceLT, ↓reduceIte, Int.reduceBEq, Int.reduceBNe, Int.reduceAdd, Int.reduceSub, Int.reduceMul, e0, e1]; try refine okTr_and rfl ?_
  refine CallK.p (ref02_Take s m hs.ok) ?_
  generalize (s.take m).1 = t at *
  generalize (s.take m).2 = b at *
  have ei : IntKind.i64.wrap ((b.length : Int) - 1) = b.length - 1 := IntWalk.i64_in _ (by omega)
  (simp only [go_sem, Nat.reduceAdd, Nat.reduceMul, Int.reduceToNat, Nat.reduceLeDiff, Int.reduceLE, Int.reduceLT, ↓reduceIte, Int.reduceBEq, Int.reduceBNe, Int.reduceAdd, Int.reduceSub, Int.reduceMul, ints_length, ei]; try refine okTr_and rfl ?_)
  refine loop_of (α := Nat) (fun k => [.any, .any, .any, .any, .ref 1 0, .any, .ref 2 0, slA .u8 b, uA (fixOf (b.drop k)), iA ((k : Int) - 1), .any, .any, .any, .any, .any, .any, .any, .any, .any, .any, .any, .any, .any, .any, .any, .any, .any, .any, .any, .any, .any, .any, .any, .any, .any]) (fun _ => [.cells [slA .u8 s.l, iA s.at_, iA s.code, iA s.fat], .cells [.sl .full 1 [], iA 0, iA 0, iA 0], .cells [slA .u8 t.l, iA t.at_, iA t.code, iA t.fat]]) (fun k => k ≤ b.length) (fun k => k) b.length (Nat.le_refl _) (Wk.to (by simp) (by simp [leT, fixOf])) ?_
  intro k hk
  (simp only [go_sem, Nat.reduceAdd, Nat.reduceMul, Int.reduceToNat, Nat.reduceLeDiff, Int.reduceLE, Int.reduceLT, ↓reduceIte, Int.reduceBEq, Int.reduceBNe, Int.reduceAdd, Int.reduceSub, Int.reduceMul]; try refine okTr_and rfl ?_)
  refine cdK_split (fun h => ?_) (fun h => ?_)
  · obtain ⟨j, rfl⟩ : ∃ j, k = j + 1 := ⟨k - 1, by simp at h; omega⟩
    have ej : ((j + 1 : Nat) : Int) - 1 = j := by omega
    have g := u8_get b j (by omega) (by omega)
    rw [Int.toNat_natCast] at g
    have hr := fixOf_range (bys_drop htb j)
    have hc := htb _ (getD_mem b j (by omega))
    have hd := fix_horner b j (by omega)
    have hl : (b.drop j).length ≤ 8 := by simp; omega
    have hp := pow_le8 _ hl
    have hr2 := (fixOf_range (bys_drop htb (j + 1))).1
    have ew : IntKind.u64.wrap (256 * fixOf (b.drop (j + 1))) = 256 * fixOf (b.drop (j + 1)) := IntWalk.u64_in _ (by omega)
    have ec : IntKind.u64.wrap (b.getD j 0) = b.getD j 0 := IntWalk.u64_in _ (by omega)
    have ea : IntKind.u64.wrap (256 * fixOf (b.drop (j + 1)) + b.getD j 0) = fixOf (b.drop j) := by rw [IntWalk.u64_in _ (by omega), hd]; omega
    have ek : IntKind.i64.wrap ((j : Int) - 1) = (j : Int) - 1 := IntWalk.i64_in _ (by omega)
    (simp only [go_sem, Nat.reduceAdd, Nat.reduceMul, Int.reduceToNat, Nat.reduceLeDiff, Int.reduceLE, Int.reduceLT, ↓reduceIte, Int.reduceBEq, Int.reduceBNe, Int.reduceAdd, Int.reduceSub, Int.reduceMul, ej, g, Int.toNat_natCast, ew, ec, ea, ek, ints_length]; try refine okTr_and rfl ?_)
    (repeat ((with_reducible refine And.intro ?_ ?_); (· exact sd)))
    exact ⟨j, by omega, by omega, Wk.to (by simp) (by simp [leT])⟩
  · have ek : k = 0 := by simp at h; omega
    subst ek
    (simp only [go_sem, Nat.reduceAdd, Nat.reduceMul, Int.reduceToNat, Nat.reduceLeDiff, Int.reduceLE, Int.reduceLT, ↓reduceIte, Int.reduceBEq, Int.reduceBNe, Int.reduceAdd, Int.reduceSub, Int.reduceMul]; try refine okTr_and rfl ?_)
    exact FinK.finA r46 []
theorem ref06_Fixed (s : RS) (n : Int) (hs : ROk s) : Ct Tryz.prog 46 [cv s, iA n] [] (fun _ => .tup [cv (s.fixed (min (max n 0) 8)).1, uA (s.fixed (min (max n 0) 8)).2]) [] (fun _ => []) := (ref06_Fixed0 s n hs).toCt cl cl
end Go.Proofs.YtnfagphepkeedaaGreat
end
section
namespace Go.Proofs.YtnfagphepkeedaaGreat
open Go.RowKit

theorem div_pow (x : Int) (k : Nat) : x / 256 ^ k / 256 = x / 256 ^ (k + 1) := by
  have hp : (0 : Int) < 256 ^ k := Int.pow_pos (by omega)
  rw [Int.ediv_ediv_of_nonneg (by omega), Int.pow_succ]
theorem pen_Fixed0 (x n : Int) (h0 : 0 ≤ x) (h1 : x < 18446744073709551616) : Does Tryz.prog 71 [uA x, iA n] [] (slA .u8 (lowBytes (min (max n 0) 8).toNat x)) [] := by
  have e0 := mx0 n
  have e1 := mn (max n 0) 8
  obtain ⟨m, hm⟩ : ∃ m : Nat, (min (max n 0) 8).toNat = m := ⟨_, rfl⟩
  have hm8 : m ≤ 8 := by omega
  have hm' : min (max n 0) 8 = (m : Int) := by omega
  rw [hm'] at e1
  rw [hm]
  refine Does.runA Tryz.func71 b71 n71 Tryz.ntmps71 ?_; simp only [c71, go_sem, Nat.reduceAdd, Nat.reduceMul, Int.reduceToNat, Nat.reduceLeDiff, Int.reduceLE, Int.reduceLT, ↓reduceIte, Int.reduceBEq, Int.reduceBNe, Int.reduceAdd, Int.reduceSub, Int.reduceMul, e0, e1]; try refine okTr_and rfl ?_
  refine loop_of (α := Nat) (fun k => [uA (x / 256 ^ k), .any, .any, .any, .any, ownA 0 (lowBytes k x), .any, .any, iA m, iA k, .any, .any, .any, .any, .any, .any, .any, .any, .any, .any, .any]) (fun k => [.row 1 k]) (fun k => k ≤ m) (fun k => m - k) 0 (by simp) ((Wk.row 5 1 rfl (.inl rfl) (Nat.le_refl _)).trans (Wk.to (by simp) (by simp [leT, ints, lowBytes]))) ?_
  intro k hk
  have hq0 : 0 ≤ x / 256 ^ k := Int.ediv_nonneg h0 (Int.le_of_lt (Int.pow_pos (by omega)))
  have hq1 : x / 256 ^ k ≤ x := Int.ediv_le_self _ h0
  have hd := div_pow x k
  have hs := lowBytes_snoc k x
  have hl := lowBytes_len k x
  (simp only [go_sem, Nat.reduceAdd, Nat.reduceMul, Int.reduceToNat, Nat.reduceLeDiff, Int.reduceLE, Int.reduceLT, ↓reduceIte, Int.reduceBEq, Int.reduceBNe, Int.reduceAdd, Int.reduceSub, Int.reduceMul]; try refine okTr_and rfl ?_)
  refine cdK_split (fun h => ?_) (fun h => ?_)
  · have hlt : k < m := by simpa using h
    obtain ⟨y, hy⟩ : ∃ y, x / 256 ^ k = y := ⟨_, rfl⟩
    rw [hy] at hq0 hq1 hd hs
    have em : y.tmod 256 = y % 256 := Int.tmod_eq_emod_of_nonneg hq0
    have eu : IntKind.u8.wrap (y % 256) = y % 256 := IntWalk.u8_in _ (by omega)
    have ed : IntKind.u64.wrap (y.tdiv 256) = x / 256 ^ (k + 1) := by rw [Int.tdiv_eq_ediv_of_nonneg hq0, IntWalk.u64_in _ (by omega), hd]
    have ei := i64_succ k (by omega)
    (simp only [go_sem, Nat.reduceAdd, Nat.reduceMul, Int.reduceToNat, Nat.reduceLeDiff, Int.reduceLE, Int.reduceLT, ↓reduceIte, Int.reduceBEq, Int.reduceBNe, Int.reduceAdd, Int.reduceSub, Int.reduceMul, hy, em, eu, ed, ei, ints_snoc, ← hs, ints_length, hl]; try refine okTr_and rfl ?_)
    (repeat ((with_reducible refine And.intro ?_ ?_); (· exact sd)))
    exact ⟨k + 1, hlt, by omega, Wk.to (by simp) (by simp [leT])⟩
  · have ek : k = m := by simp at h; omega
    (simp only [go_sem, Nat.reduceAdd, Nat.reduceMul, Int.reduceToNat, Nat.reduceLeDiff, Int.reduceLE, Int.reduceLT, ↓reduceIte, Int.reduceBEq, Int.reduceBNe, Int.reduceAdd, Int.reduceSub, Int.reduceMul]; try refine okTr_and rfl ?_)
    (refine FinK.untag 4 rfl ?_; simp only [untag1_sl, List.set_cons_zero, List.set_cons_succ])
    ((refine FinK.finB r71 [] ?_ ?_); (· first | with_reducible rfl | (simp [ek]; done) | rfl); (· simp [resAL, resA1, loadA, oneOr, ek]))
theorem pen_Fixed (x n : Int) (h0 : 0 ≤ x) (h1 : x < 18446744073709551616) : Ct Tryz.prog 71 [uA x, iA n] [] (fun _ => slA .u8 (lowBytes (min (max n 0) 8).toNat x)) [] (fun _ => []) := (pen_Fixed0 x n h0 h1).toCt cl cl
theorem Writer_Fixed0 (s : WS) (x n : Int) (h0 : 0 ≤ x) (h1 : x < 18446744073709551616) (hs : s.fine) : Does Tryz.prog 154 [.ref 0 0, uA x, iA n] [wob 1 s, wrow s] (.tup []) [wob 1 (s.put (lowBytes (min (max n 0) 8).toNat x)), wrow (s.put (lowBytes (min (max n 0) 8).toNat x))] := by
  refine Does.runA Tryz.func154 b154 n154 Tryz.ntmps154 ?_; simp only [c154, go_sem, Nat.reduceAdd, Nat.reduceMul, Int.reduceToNat, Nat.reduceLeDiff, Int.reduceLE, Int.reduceLT, ↓reduceIte, Int.reduceBEq, Int.reduceBNe, Int.reduceAdd, Int.reduceSub, Int.reduceMul]; try refine okTr_and rfl ?_
  refine CallK.p (pen_Fixed x n h0 h1) ?_; (simp only [go_sem, Nat.reduceAdd, Nat.reduceMul, Int.reduceToNat, Nat.reduceLeDiff, Int.reduceLE, Int.reduceLT, ↓reduceIte, Int.reduceBEq, Int.reduceBNe, Int.reduceAdd, Int.reduceSub, Int.reduceMul]; try refine okTr_and rfl ?_)
  refine CallK.u2 (Writer_Put s _ 0 1 (by decide) hs.ok (hs.room _)) rfl rfl ?_; (simp only [go_sem, Nat.reduceAdd, Nat.reduceMul, Int.reduceToNat, Nat.reduceLeDiff, Int.reduceLE, Int.reduceLT, ↓reduceIte, Int.reduceBEq, Int.reduceBNe, Int.reduceAdd, Int.reduceSub, Int.reduceMul]; try refine okTr_and rfl ?_)
  exact FinK.finA r154 [0, 1]
theorem Writer_Fixed (s : WS) (x n : Int) (i j : Nat) (h : i ≠ j) (h0 : 0 ≤ x) (h1 : x < 18446744073709551616) (hs : s.fine) : Ct Tryz.prog 154 [.ref i 0, uA x, iA n] [(i, wob j s), (j, wrow s)] (fun _ => .tup []) [(i, wob j (s.put (lowBytes (min (max n 0) 8).toNat x))), (j, wrow (s.put (lowBytes (min (max n 0) 8).toNat x)))] (fun _ => []) := Ct.u2 (Writer_Fixed0 s x n h0 h1 hs) i j h cl cl cl cl cl (wob_dead _ _) (wrow_dead _) clo

end Go.Proofs.YtnfagphepkeedaaGreat
end
end
section
section
namespace Go.Proofs.YtnfagphepkeedaaGreat
open Go.RowKit

def WS.fall (s : WS) (b : Int) (l : List Int) : WS := if falls b l = true then (s.put (vb l.length)).puts (dsts b l l.length) else s.fail 3
end Go.Proofs.YtnfagphepkeedaaGreat
end
section
namespace Go.Proofs.YtnfagphepkeedaaGreat
open Go.RowKit

theorem fallF_over {b : Int} {s : RS} {acc : List Int} (hx : blw b acc ≤ s.vint.2) : ((fallF b).f s acc).1 = s.vint.1.fail 13 s.at_ ∧ ¬ ((fallF b).f s acc).1.code = 0 := by
  show (if s.vint.1.code = 0 ∧ blw b acc ≤ s.vint.2 then (s.vint.1.fail 13 s.at_, (0 : Int)) else (s.vint.1, blw b acc - 1 - s.vint.2)).1 = _ ∧ _
  by_cases hc : s.vint.1.code = 0
  · refine ⟨by rw [if_pos ⟨hc, hx⟩], ?_⟩
    show ¬ (if s.vint.1.code = 0 ∧ blw b acc ≤ s.vint.2 then (s.vint.1.fail 13 s.at_, (0 : Int)) else (s.vint.1, blw b acc - 1 - s.vint.2)).1.code = 0
    rw [if_pos ⟨hc, hx⟩]; exact fail_not0 _ _ hc (by decide)
  · refine ⟨?_, ?_⟩
    · rw [if_neg fun h => hc h.1]; unfold RS.fail; rw [if_neg hc]
    · show ¬ (if s.vint.1.code = 0 ∧ blw b acc ≤ s.vint.2 then (s.vint.1.fail 13 s.at_, (0 : Int)) else (s.vint.1, blw b acc - 1 - s.vint.2)).1.code = 0
      rw [if_neg fun h => hc h.1]; exact hc
theorem fallF_fits {b : Int} {s : RS} {acc : List Int} (hx : s.vint.2 < blw b acc) : (fallF b).f s acc = (s.vint.1, blw b acc - 1 - s.vint.2) := by
  show (if s.vint.1.code = 0 ∧ blw b acc ≤ s.vint.2 then (s.vint.1.fail 13 s.at_, (0 : Int)) else (s.vint.1, blw b acc - 1 - s.vint.2)) = _
  rw [if_neg (by omega)]
theorem fallF_bad {b : Int} {s : RS} {acc : List Int} (hc : ¬ s.vint.1.code = 0) : ((fallF b).f s acc).1 = s.vint.1 := by
  show (if s.vint.1.code = 0 ∧ blw b acc ≤ s.vint.2 then (s.vint.1.fail 13 s.at_, (0 : Int)) else (s.vint.1, blw b acc - 1 - s.vint.2)).1 = _
  rw [if_neg fun h => hc h.1]
set_option maxRecDepth 100000 in
theorem delta_Read0 (s : RS) (b m : Int) (b0 : 0 ≤ b) (b1 : b < 18446744073709551616) (m1 : m < 9223372036854775808) (hs : ROk s) (hn : s.l.length * 8 ≤ 140737488355328) : Does Tryz.prog 163 [.ref 0 0, uA b, iA m] [rdr s] (slU (s.fall b m).2) [rdr ((s.fall b m).1)] := by
  have hF := fallF_ok b1
  have hir := int_range (s := s) (m := m) hs.bys
  obtain ⟨hi1, hi2⟩ := hs.int m
  unfold RS.fall Fmt.counted
  refine Does.runA Tryz.func163 b163 n163 Tryz.ntmps163 ?_; simp only [c163, go_sem, Nat.reduceAdd, Nat.reduceMul, Int.reduceToNat, Nat.reduceLeDiff, Int.reduceLE, Int.reduceLT, ↓reduceIte, Int.reduceBEq, Int.reduceBNe, Int.reduceAdd, Int.reduceSub, Int.reduceMul]; try refine okTr_and rfl ?_
  refine CallK.u1 (varint_ReadInt s m 0 m1 hs.ok hs.bys) rfl ?_
  generalize hu : (s.int m).1 = u at *
  generalize (s.int m).2 = z at *
  obtain ⟨N, hN⟩ : ∃ N, z.toNat = N := ⟨_, rfl⟩
  have hz : z = (N : Int) := by omega
  subst hz
  rw [Int.toNat_natCast]
  (simp only [go_sem, Nat.reduceAdd, Nat.reduceMul, Int.reduceToNat, Nat.reduceLeDiff, Int.reduceLE, Int.reduceLT, ↓reduceIte, Int.reduceBEq, Int.reduceBNe, Int.reduceAdd, Int.reduceSub, Int.reduceMul]; try refine okTr_and rfl ?_)
  refine loop_of (α := RS × List Int) (fun a => [.ref 0 0, uA (blw b a.2), .any, .any, .any, .any, .any, .sl (.row 1) 1 (ints .u64 a.2), .any, .any, .any, .any, iA N, iA a.2.length, .any, .any, .any, .any, .any, .any, .any, .any, .any, .any, .any, .any, .any, .any, .any, .any, .any, .any, .any, .any, .any, .any, .any, .any]) (fun a => [rdr a.1, .row 1 a.2.length]) ((fallF b).On u N) (fun a => N - a.2.length) (u, []) (Fmt.On.start hi1 N) ((Wk.row 7 1 rfl (.inl rfl) (Nat.le_refl _)).trans (Wk.to (by simp) (by simp [leT, ints, blw]))) ?_
  rintro ⟨t, acc⟩ ho
  have hla := ho.len
  rw [hi2] at hla
  have h1 := ho.ok
  have h6 := ho.res
  have hw := fall_le ho.wf
  simp only at h1 h6 hw
  (simp only [go_sem, Nat.reduceAdd, Nat.reduceMul, Int.reduceToNat, Nat.reduceLeDiff, Int.reduceLE, Int.reduceLT, ↓reduceIte, Int.reduceBEq, Int.reduceBNe, Int.reduceAdd, Int.reduceSub, Int.reduceMul]; try refine okTr_and rfl ?_)
  refine cdK_split (fun h => ?_) (fun h => ?_)
  · have hlt : acc.length < N := by simpa using h
    have ei := i64_succ acc.length (by omega)
    have hx := vint_range (s := t) h1.bys
    (simp only [go_sem, Nat.reduceAdd, Nat.reduceMul, Int.reduceToNat, Nat.reduceLeDiff, Int.reduceLE, Int.reduceLT, ↓reduceIte, Int.reduceBEq, Int.reduceBNe, Int.reduceAdd, Int.reduceSub, Int.reduceMul]; try refine okTr_and rfl ?_)
    refine CallK.r1 (Reader_At t 0) rfl ?_; (simp only [go_sem, Nat.reduceAdd, Nat.reduceMul, Int.reduceToNat, Nat.reduceLeDiff, Int.reduceLE, Int.reduceLT, ↓reduceIte, Int.reduceBEq, Int.reduceBNe, Int.reduceAdd, Int.reduceSub, Int.reduceMul]; try refine okTr_and rfl ?_)
    refine CallK.u1 (varint_Read t 0 h1.ok h1.bys) rfl ?_; (simp only [go_sem, Nat.reduceAdd, Nat.reduceMul, Int.reduceToNat, Nat.reduceLeDiff, Int.reduceLE, Int.reduceLT, ↓reduceIte, Int.reduceBEq, Int.reduceBNe, Int.reduceAdd, Int.reduceSub, Int.reduceMul]; try refine okTr_and rfl ?_)
    by_cases hv : blw b acc ≤ t.vint.2
    · have q : decide (blw b acc ≤ t.vint.2) = true := by simpa using hv
      obtain ⟨o1, o2⟩ := fallF_over (b := b) (s := t) (acc := acc) hv
      have hb := many_bad (F := fallF b) (s := t) hlt o2
      rw [h6, o1] at hb
      rw [o1] at o2
      (simp only [go_sem, Nat.reduceAdd, Nat.reduceMul, Int.reduceToNat, Nat.reduceLeDiff, Int.reduceLE, Int.reduceLT, ↓reduceIte, Int.reduceBEq, Int.reduceBNe, Int.reduceAdd, Int.reduceSub, Int.reduceMul, q]; try refine okTr_and rfl ?_)
      refine CallK.u1 (Reader_Fail _ 13 _ 0) rfl ?_; (simp only [go_sem, Nat.reduceAdd, Nat.reduceMul, Int.reduceToNat, Nat.reduceLeDiff, Int.reduceLE, Int.reduceLT, ↓reduceIte, Int.reduceBEq, Int.reduceBNe, Int.reduceAdd, Int.reduceSub, Int.reduceMul]; try refine okTr_and rfl ?_)
      refine CallK.r1 (Reader_Good _ 0) rfl ?_; (simp only [go_sem, Nat.reduceAdd, Nat.reduceMul, Int.reduceToNat, Nat.reduceLeDiff, Int.reduceLE, Int.reduceLT, ↓reduceIte, Int.reduceBEq, Int.reduceBNe, Int.reduceAdd, Int.reduceSub, Int.reduceMul, good_false o2]; try refine okTr_and rfl ?_)
      (refine FinK.untag 6 rfl ?_; simp only [untag1_sl, List.set_cons_zero, List.set_cons_succ])
      ((refine FinK.finB r163 [0] ?_ ?_); (· first | with_reducible rfl | (simp [hb]; done) | rfl); (· simp [resAL, resA1, loadA, oneOr, hb]))
    · have q : decide (blw b acc ≤ t.vint.2) = false := by simpa using hv
      have hf := fallF_fits (b := b) (s := t) (acc := acc) (by omega)
      (simp only [go_sem, Nat.reduceAdd, Nat.reduceMul, Int.reduceToNat, Nat.reduceLeDiff, Int.reduceLE, Int.reduceLT, ↓reduceIte, Int.reduceBEq, Int.reduceBNe, Int.reduceAdd, Int.reduceSub, Int.reduceMul, q]; try refine okTr_and rfl ?_)
      refine CallK.r1 (Reader_Good _ 0) rfl ?_
      by_cases hc : t.vint.1.code = 0
      · have hnx := ho.next hF hlt (by rw [hf]; exact hc)
        rw [hf] at hnx
        have hl2 := hnx.len
        rw [List.length_append, List.length_singleton, hi2] at hl2
        have e1 : IntKind.u64.wrap (t.vint.2 + 1) = t.vint.2 + 1 := IntWalk.u64_in _ (by omega)
        have e2 : IntKind.u64.wrap (blw b acc - (t.vint.2 + 1)) = blw b acc - 1 - t.vint.2 := by rw [IntWalk.u64_in _ (by omega)]; omega
        (simp only [go_sem, Nat.reduceAdd, Nat.reduceMul, Int.reduceToNat, Nat.reduceLeDiff, Int.reduceLE, Int.reduceLT, ↓reduceIte, Int.reduceBEq, Int.reduceBNe, Int.reduceAdd, Int.reduceSub, Int.reduceMul, good_true hc, e1, e2, ints_snoc, ints_length, ei]; try refine okTr_and rfl ?_)
        (repeat ((with_reducible refine And.intro ?_ ?_); (· exact sd)))
        exact ⟨(t.vint.1, acc ++ [blw b acc - 1 - t.vint.2]), hnx, by simp; omega, Wk.to (by simp) (by simp [leT, blw_snoc])⟩
      · have hb := many_bad (F := fallF b) (s := t) (acc := acc) hlt (by rw [hf]; exact hc)
        rw [h6, hf] at hb
        (simp only [go_sem, Nat.reduceAdd, Nat.reduceMul, Int.reduceToNat, Nat.reduceLeDiff, Int.reduceLE, Int.reduceLT, ↓reduceIte, Int.reduceBEq, Int.reduceBNe, Int.reduceAdd, Int.reduceSub, Int.reduceMul, good_false hc]; try refine okTr_and rfl ?_)
        (refine FinK.untag 6 rfl ?_; simp only [untag1_sl, List.set_cons_zero, List.set_cons_succ])
        ((refine FinK.finB r163 [0] ?_ ?_); (· first | with_reducible rfl | (simp [hb]; done) | rfl); (· simp [resAL, resA1, loadA, oneOr, hb]))
  · have hge : N ≤ acc.length := by simpa using h
    have hb := many_end (F := fallF b) (s := t) hge
    rw [h6] at hb
    (simp only [go_sem, Nat.reduceAdd, Nat.reduceMul, Int.reduceToNat, Nat.reduceLeDiff, Int.reduceLE, Int.reduceLT, ↓reduceIte, Int.reduceBEq, Int.reduceBNe, Int.reduceAdd, Int.reduceSub, Int.reduceMul]; try refine okTr_and rfl ?_)
    (refine FinK.untag 6 rfl ?_; simp only [untag1_sl, List.set_cons_zero, List.set_cons_succ])
    ((refine FinK.finB r163 [0] ?_ ?_); (· first | with_reducible rfl | (simp [hb]; done) | rfl); (· simp [resAL, resA1, loadA, oneOr, hb]))
theorem delta_Read (s : RS) (b m : Int) (i : Nat) (b0 : 0 ≤ b) (b1 : b < 18446744073709551616) (m1 : m < 9223372036854775808) (hs : ROk s) (hn : s.l.length * 8 ≤ 140737488355328) : Ct Tryz.prog 163 [.ref i 0, uA b, iA m] [(i, rdr s)] (fun _ => slU (s.fall b m).2) [(i, rdr ((s.fall b m).1))] (fun _ => []) := Ct.u1 (delta_Read0 s b m b0 b1 m1 hs hn) i cl (fun ρ => rdr_ren ρ _) (fun ρ => rdr_ren ρ _) (rdr_dead _) cl

/-- What is borne in the reference's loop: below, too. -/
def FOn (b : Int) (u : RS) (N : Nat) (a : (RS × List Int) × Int) : Prop := (fallF b).On2 u N a.1 ∧ (a.1.1.code = 0 → (fallF b).On u N a.1 ∧ a.2 = blw b a.1.2)
set_option maxRecDepth 100000 in
theorem ref22_Read0 (s : RS) (b m : Int) (b0 : 0 ≤ b) (b1 : b < 18446744073709551616) (m1 : m < 9223372036854775808) (hs : ROk s) (hn : s.l.length * 8 ≤ 100000000000000) : Does Tryz.prog 164 [cv s, uA b, iA m] [] (.tup [cv (s.fall b m).1, slU (s.fall b m).2]) [] := by
  have hF := fallF_ok b1
  have hir := int_range (s := s) (m := m) hs.bys
  obtain ⟨hi1, hi2⟩ := hs.int m
  unfold RS.fall Fmt.counted
  refine Does.runA Tryz.func164 b164 n164 Tryz.ntmps164 ?_; simp only [c164, go_sem, Nat.reduceAdd, Nat.reduceMul, Int.reduceToNat, Nat.reduceLeDiff, Int.reduceLE, Int.reduceLT, ↓reduceIte, Int.reduceBEq, Int.reduceBNe, Int.reduceAdd, Int.reduceSub, Int.reduceMul]; try refine okTr_and rfl ?_
  refine CallK.p (ref04_Int s m m1 hs) ?_
  generalize hu : (s.int m).1 = u at *
  generalize (s.int m).2 = z at *
  obtain ⟨N, hN⟩ : ∃ N, z.toNat = N := ⟨_, rfl⟩
  have hz : z = (N : Int) := by omega
  subst hz
  rw [Int.toNat_natCast]
  (simp only [go_sem, Nat.reduceAdd, Nat.reduceMul, Int.reduceToNat, Nat.reduceLeDiff, Int.reduceLE, Int.reduceLT, ↓reduceIte, Int.reduceBEq, Int.reduceBNe, Int.reduceAdd, Int.reduceSub, Int.reduceMul]; try refine okTr_and rfl ?_)
  refine loop_of (α := (RS × List Int) × Int) (fun a => [.any, uA a.2, .any, .any, .any, .any, .ref 1 0, .any, .ref 2 0, iA N, .sl (.row 3) 1 (ints .u64 a.1.2), iA a.1.2.length, .any, .any, .any, .any, .any, .any, .any, .any, .any, .any, .any, .any, .any, .any, .any, .any, .any, .any, .any, .any, .any, .any, .any, .any, .any, .any, .any, .any, .any, .any, .any, .any, .any, .any, .any, .any, .any, .any, .any, .any, .any, .any, .any, .any, .any, .any, .any, .any, .any, .any, .any, .any, .any]) (fun a => [.cells [slA .u8 s.l, iA s.at_, iA s.code, iA s.fat], .cells [.sl .full 1 [], iA 0, iA 0, iA 0], .cells [slA .u8 a.1.1.l, iA a.1.1.at_, iA a.1.1.code, iA a.1.1.fat], .row 1 a.1.2.length]) (FOn b u N) (fun a => N - a.1.2.length) ((u, []), b) ⟨.inl (Fmt.On.start hi1 N), fun _ => ⟨Fmt.On.start hi1 N, rfl⟩⟩ ((Wk.row 10 1 rfl (.inl rfl) (Nat.le_refl _)).trans (Wk.to (by simp) (by simp [leT, ints]))) ?_
  rintro ⟨⟨t, acc⟩, w⟩ ⟨ho2, hoc⟩
  simp only at hoc
  have hlen2 : acc.length ≤ s.l.length + 1 := by
    rcases ho2 with ho | ⟨_, _, _, _, _, hle2⟩
    · have := ho.len; rw [hi2] at this; omega
    · rw [hi2] at hle2; exact hle2
  by_cases hc0 : t.code = 0
  · obtain ⟨ho, rfl⟩ := hoc hc0
    have hla := ho.len
    rw [hi2] at hla
    have h1 := ho.ok
    have h6 := ho.res
    have h2 := ho.l
    have hw := fall_le ho.wf
    simp only at h1 h6 h2 hw
    by_cases hlt : acc.length < N
    · have q1 : decide ((acc.length : Int) < N) = true := by simpa using hlt
      have q2 : (t.code == 0) = true := by simpa using hc0
      have ei := i64_succ acc.length (by omega)
      have hx := vint_range (s := t) h1.bys
      (simp only [go_sem, Nat.reduceAdd, Nat.reduceMul, Int.reduceToNat, Nat.reduceLeDiff, Int.reduceLE, Int.reduceLT, ↓reduceIte, Int.reduceBEq, Int.reduceBNe, Int.reduceAdd, Int.reduceSub, Int.reduceMul, q1, q2]; try refine okTr_and rfl ?_)
      refine CallK.p (ref04_Read t h1) ?_
      by_cases hc : t.vint.1.code = 0
      · have q3 : (t.vint.1.code == 0) = true := by simpa using hc
        by_cases hv : blw b acc ≤ t.vint.2
        · have q4 : decide (blw b acc ≤ t.vint.2) = true := by simpa using hv
          obtain ⟨o1, o2⟩ := fallF_over (b := b) (s := t) (acc := acc) hv
          have hb := many_bad (F := fallF b) (s := t) hlt o2
          rw [h6, o1] at hb
          rw [o1] at o2
          have hkp := hF.keep t acc h1 ho.wf
          rw [o1] at hkp
          (simp only [go_sem, Nat.reduceAdd, Nat.reduceMul, Int.reduceToNat, Nat.reduceLeDiff, Int.reduceLE, Int.reduceLT, ↓reduceIte, Int.reduceBEq, Int.reduceBNe, Int.reduceAdd, Int.reduceSub, Int.reduceMul, q3, q4]; try refine okTr_and rfl ?_)
          refine CallK.p (ref02_Fail _ _ _) ?_
          (simp only [go_sem, Nat.reduceAdd, Nat.reduceMul, Int.reduceToNat, Nat.reduceLeDiff, Int.reduceLE, Int.reduceLT, ↓reduceIte, Int.reduceBEq, Int.reduceBNe, Int.reduceAdd, Int.reduceSub, Int.reduceMul, ints_snoc, ints_length, ei]; try refine okTr_and rfl ?_)
          (repeat ((with_reducible refine And.intro ?_ ?_); (· exact sd)))
          exact ⟨((t.vint.1.fail 13 t.at_, acc ++ [IntKind.u64.wrap (IntKind.u64.wrap (blw b acc - t.vint.2) - 1)]), IntKind.u64.wrap (IntKind.u64.wrap (blw b acc - t.vint.2) - 1)), ⟨.inr ⟨o2, hb, hkp.1, hkp.2.trans h2, by simp; omega, by rw [hi2]; simp; omega⟩, fun h => absurd h o2⟩, by simp; omega, Wk.sel [0, 1, 2, 3] (by simp) rfl (by simp) rfl (by simp [ixs_z]) (by simp [selT, ixs_z])⟩
        · have q4 : decide (blw b acc ≤ t.vint.2) = false := by simpa using hv
          have hf := fallF_fits (b := b) (s := t) (acc := acc) (by omega)
          have hnx := ho.next hF hlt (by rw [hf]; exact hc)
          rw [hf] at hnx
          have hl2 := hnx.len
          rw [List.length_append, List.length_singleton, hi2] at hl2
          have e1 : IntKind.u64.wrap (blw b acc - t.vint.2) = blw b acc - t.vint.2 := IntWalk.u64_in _ (by omega)
          have e2 : IntKind.u64.wrap (blw b acc - t.vint.2 - 1) = blw b acc - 1 - t.vint.2 := by rw [IntWalk.u64_in _ (by omega)]; omega
          (simp only [go_sem, Nat.reduceAdd, Nat.reduceMul, Int.reduceToNat, Nat.reduceLeDiff, Int.reduceLE, Int.reduceLT, ↓reduceIte, Int.reduceBEq, Int.reduceBNe, Int.reduceAdd, Int.reduceSub, Int.reduceMul, q3, q4, e1, e2, ints_snoc, ints_length, ei]; try refine okTr_and rfl ?_)
          (repeat ((with_reducible refine And.intro ?_ ?_); (· exact sd)))
          exact ⟨((t.vint.1, acc ++ [blw b acc - 1 - t.vint.2]), blw b acc - 1 - t.vint.2), ⟨.inl hnx, fun _ => ⟨hnx, (blw_snoc _ _ _).symm⟩⟩, by simp; omega, Wk.sel [0, 1, 2, 3] (by simp) rfl (by simp) rfl (by simp [ixs_z]) (by simp [selT, ixs_z])⟩
      · have q3 : (t.vint.1.code == 0) = false := by simpa using hc
        have o1 := fallF_bad (b := b) (s := t) (acc := acc) hc
        have hb := many_bad (F := fallF b) (s := t) hlt (by rw [o1]; exact hc)
        rw [h6, o1] at hb
        (simp only [go_sem, Nat.reduceAdd, Nat.reduceMul, Int.reduceToNat, Nat.reduceLeDiff, Int.reduceLE, Int.reduceLT, ↓reduceIte, Int.reduceBEq, Int.reduceBNe, Int.reduceAdd, Int.reduceSub, Int.reduceMul, q3, ints_snoc, ints_length, ei]; try refine okTr_and rfl ?_)
        (repeat ((with_reducible refine And.intro ?_ ?_); (· exact sd)))
        exact ⟨((t.vint.1, acc ++ [IntKind.u64.wrap (IntKind.u64.wrap (blw b acc - t.vint.2) - 1)]), IntKind.u64.wrap (IntKind.u64.wrap (blw b acc - t.vint.2) - 1)), ⟨.inr ⟨hc, hb, h1.vint.1, h1.vint.2.trans h2, by simp; omega, by rw [hi2]; simp; omega⟩, fun h => absurd h hc⟩, by simp; omega, Wk.sel [0, 1, 2, 3] (by simp) rfl (by simp) rfl (by simp [ixs_z]) (by simp [selT, ixs_z])⟩
    · have q1 : decide ((acc.length : Int) < N) = false := by simpa using hlt
      have hb := many_end (F := fallF b) (s := t) (N := N) (acc := acc) (by omega)
      rw [h6] at hb
      have q3 : (t.code != 0) = false := by simpa using hc0
      (simp only [go_sem, Nat.reduceAdd, Nat.reduceMul, Int.reduceToNat, Nat.reduceLeDiff, Int.reduceLE, Int.reduceLT, ↓reduceIte, Int.reduceBEq, Int.reduceBNe, Int.reduceAdd, Int.reduceSub, Int.reduceMul, q1, q3]; try refine okTr_and rfl ?_)
      (refine FinK.untag 7 rfl ?_; simp only [untag1_sl, List.set_cons_zero, List.set_cons_succ])
      ((refine FinK.finB r164 [] ?_ ?_); (· first | with_reducible rfl | (simp [hb]; done) | rfl); (· simp [resAL, resA1, loadA, oneOr, hb]))
  · have q2 : (t.code == 0) = false := by simpa using hc0
    have q3 : (t.code != 0) = true := by simpa using hc0
    have hb : (fallF b).many N u [] = (t, []) := by
      rcases ho2 with ho | ⟨_, h, _⟩
      · by_cases hlt : acc.length < N
        · have o1 := fallF_bad (b := b) (s := t) (acc := acc) (by rw [vint_bad hc0]; exact hc0)
          have := many_bad (F := fallF b) (s := t) (acc := acc) hlt (by rw [o1, vint_bad hc0]; exact hc0)
          have h6 := ho.res
          simp only at h6
          rw [h6, o1, vint_bad hc0] at this
          exact this
        · have hb := many_end (F := fallF b) (s := t) (N := N) (acc := acc) (by omega)
          have h6 := ho.res
          simp only at h6
          rw [h6] at hb
          have hnil := many_bad_nil (F := fallF b) N u [] (.inr rfl) (by rw [hb]; exact hc0)
          rw [hb] at hnil
          simp only at hnil
          rw [hb, hnil]
      · exact h
    by_cases hlt : acc.length < N
    · have q1 : decide ((acc.length : Int) < N) = true := by simpa using hlt
      (simp only [go_sem, Nat.reduceAdd, Nat.reduceMul, Int.reduceToNat, Nat.reduceLeDiff, Int.reduceLE, Int.reduceLT, ↓reduceIte, Int.reduceBEq, Int.reduceBNe, Int.reduceAdd, Int.reduceSub, Int.reduceMul, q1, q2, q3]; try refine okTr_and rfl ?_)
      (refine FinK.untag 7 rfl ?_; simp only [untag1_sl, List.set_cons_zero, List.set_cons_succ])
      ((refine FinK.finB r164 [] ?_ ?_); (· first | with_reducible rfl | (simp [hb]; done) | rfl); (· simp [resAL, resA1, loadA, oneOr, hb]))
    · have q1 : decide ((acc.length : Int) < N) = false := by simpa using hlt
      (simp only [go_sem, Nat.reduceAdd, Nat.reduceMul, Int.reduceToNat, Nat.reduceLeDiff, Int.reduceLE, Int.reduceLT, ↓reduceIte, Int.reduceBEq, Int.reduceBNe, Int.reduceAdd, Int.reduceSub, Int.reduceMul, q1, q3]; try refine okTr_and rfl ?_)
      (refine FinK.untag 7 rfl ?_; simp only [untag1_sl, List.set_cons_zero, List.set_cons_succ])
      ((refine FinK.finB r164 [] ?_ ?_); (· first | with_reducible rfl | (simp [hb]; done) | rfl); (· simp [resAL, resA1, loadA, oneOr, hb]))
theorem ref22_Read (s : RS) (b m : Int) (b0 : 0 ≤ b) (b1 : b < 18446744073709551616) (m1 : m < 9223372036854775808) (hs : ROk s) (hn : s.l.length * 8 ≤ 100000000000000) : Ct Tryz.prog 164 [cv s, uA b, iA m] [] (fun _ => .tup [cv (s.fall b m).1, slU (s.fall b m).2]) [] (fun _ => []) := (ref22_Read0 s b m b0 b1 m1 hs hn).toCt cl cl

end Go.Proofs.YtnfagphepkeedaaGreat
end
end
section
namespace Go.Proofs.YtnfagphepkeedaaGreat
open Go.RowKit

/-- A link, links. -/
abbrev lkA (x : Lk) : AV := .agg [uA x.st, slU x.bk]
def lks (l : List Lk) : List AV := l.map lkA
abbrev slL (l : List Lk) : AV := .sl .none 2 (lks l)
@[simp] theorem ren_lks (ρ : Nat → Nat) (l : List Lk) : (lks l).map (fun x => x.ren ρ) = lks l := by
  have h : ∀ (k : IntKind) (m : List Int), (ints k m).map (fun x => x.ren ρ) = ints k m := ren_ints ρ
  simp [lks, ixs_z]
@[simp] theorem ren_ints_l (ρ : Nat → Nat) (k : IntKind) (l : List Int) : (ints k l).map (fun x => x.ren ρ) = ints k l := ren_ints ρ k l
theorem lks_length (l : List Lk) : (lks l).length = l.length := by simp [lks]
theorem lks_nil : lks [] = [] := (rfl)
theorem lks_snoc (l : List Lk) (x : Lk) : lks l ++ [lkA x] = lks (l ++ [x]) := by simp [lks]
theorem lks_get (l : List Lk) (k : Nat) (h : k < l.length) : (lks l).getD k .any = lkA (l.getD k lk0) := by simp [lks, h]
theorem Lks.take {l : List Lk} (h : Lks l) (k : Nat) : Lks (l.take k) := fun x hx => h x (List.mem_of_mem_take hx)
theorem i64_pred (k : Nat) (h0 : 0 < k) (h : k < 140737488355328) : IntKind.i64.wrap ((k : Int) - 1) = ((k - 1 : Nat) : Int) := by rw [IntWalk.i64_in _ (by omega)]; omega
def Smalls (l : List Lk) : Prop := l.length ≤ 1000000 ∧ ∀ x ∈ l, x.bk.length ≤ 1000000
/-- By how much a stream is above the one ahead. -/
def stpL (l : List Lk) (i : Nat) : Int := (l.getD i lk0).st - lst (l.take i) - 1
/-- A writer behind the first k links. -/
def WS.lkN (s : WS) (pos : Int) (l : List Lk) : Nat → WS
  | 0 => s.put (vb l.length)
  | k + 1 => ((s.lkN pos l k).put (vb (stpL l k))).fall pos (l.getD k lk0).bk
def WS.links (s : WS) (pos : Int) (l : List Lk) : WS := if rightL pos l = true then s.lkN pos l l.length else s.fail 3
theorem WS.fine.fall {s : WS} (h : s.fine) (b : Int) (l : List Int) : (s.fall b l).fine := by
  unfold WS.fall
  split
  · exact (h.put _).puts _
  · exact h.fail 3
theorem WS.fine.lkN {s : WS} (h : s.fine) (pos : Int) (l : List Lk) : ∀ k, (s.lkN pos l k).fine := by
  intro k
  induction k with
  | zero => exact h.put _
  | succ k ih => exact (ih.put _).fall _ _
theorem WS.fine.links {s : WS} (h : s.fine) (pos : Int) (l : List Lk) : (s.links pos l).fine := by
  unfold WS.links; split
  · exact h.lkN pos l _
  · exact h.fail 3
theorem put_fit {s : WS} {m : List Int} (h : s.code = 0) (hm : (s.l.length : Int) + m.length ≤ s.most) : s.put m = ⟨s.most, s.l ++ m, 0⟩ := by
  rw [WS.put_ok h hm]; cases s; simp at h; simp [h]
end Go.Proofs.YtnfagphepkeedaaGreat
end
section
namespace Go.Proofs.YtnfagphepkeedaaGreat
open Go.RowKit

theorem xor_max {x : Int} (h0 : 0 ≤ x) (h1 : x < 18446744073709551616) : bitsI .xor .u64 (if IntKind.u64.signed then -1 else IntKind.u64.max) x = 18446744073709551615 - x := by
  have h := xor_u64_1 h0 h1
  have e : bitsI .xor .u64 (if IntKind.u64.signed then -1 else IntKind.u64.max) x = bitsI .xor .u64 x 18446744073709551615 := by
    show IntKind.u64.wrap ((BitVec.ofInt 64 18446744073709551615 ^^^ BitVec.ofInt 64 x).toNat : Int) = IntKind.u64.wrap ((BitVec.ofInt 64 x ^^^ BitVec.ofInt 64 18446744073709551615).toNat : Int)
    rw [BitVec.xor_comm]
  rw [e, h]
theorem lkHead_nil {s : RS} (h : ROk s) : s.lkHead [] = s.vint.1 := by
  have hv := vint_range (s := s) h.bys
  unfold RS.lkHead; rw [lst_nil, if_neg (by omega)]
theorem lkHead_keep {s : RS} (h : ROk s) (acc : List Lk) : ROk (s.lkHead acc) ∧ (s.lkHead acc).l = s.l := by
  obtain ⟨a, b⟩ := h.vint
  unfold RS.lkHead; split
  · exact ⟨a.fail _ _, by rw [fail_l]; exact b⟩
  · exact ⟨a, b⟩
theorem lkHead_over {s : RS} {acc : List Lk} (h : 18446744073709551616 ≤ lst acc + 1 + s.vint.2) : s.vint.1.fail 13 s.at_ = s.lkHead acc := by
  unfold RS.lkHead
  by_cases hc : s.vint.1.code = 0
  · rw [if_pos ⟨hc, h⟩]
  · rw [if_neg fun x => hc x.1]; unfold RS.fail; rw [if_neg hc]
theorem lkHead_fits {s : RS} {acc : List Lk} (h : ¬ 18446744073709551616 ≤ lst acc + 1 + s.vint.2) : s.lkHead acc = s.vint.1 := by
  unfold RS.lkHead; rw [if_neg fun x => h x.2]
theorem linkF_f (pos : Int) (s : RS) (acc : List Lk) : (linkF pos).f s acc = (((s.lkHead acc).fall pos 4).1, ⟨lst acc + 1 + s.vint.2, ((s.lkHead acc).fall pos 4).2⟩) := rfl
theorem fall_code {s : RS} {b m : Int} (h : ROk s) (b0 : 0 ≤ b) (b1 : b < 18446744073709551616) (hc : (s.fall b m).1.code = 0) : s.code = 0 := (fall_is h b0 b1 hc).1
set_option maxHeartbeats 1000000 in
set_option maxRecDepth 100000 in
theorem link_Read0 (s : RS) (pos : Int) (p0 : 0 ≤ pos) (p1 : pos < 18446744073709551616) (hs : ROk s) (hn : s.l.length * 32 ≤ 100000000000000) : Does Tryz.prog 123 [.ref 0 0, uA pos] [rdr s] (slL (s.links pos).2) [rdr ((s.links pos).1)] := by
  have hF := linkF_ok p0 p1
  have hir := int_range (s := s) (m := 16) hs.bys
  obtain ⟨hi1, hi2⟩ := hs.int 16
  unfold RS.links Fmt.counted
  refine Does.runA Tryz.func123 b123 n123 Tryz.ntmps123 ?_; simp only [c123, go_sem, Nat.reduceAdd, Nat.reduceMul, Int.reduceToNat, Nat.reduceLeDiff, Int.reduceLE, Int.reduceLT, ↓reduceIte, Int.reduceBEq, Int.reduceBNe, Int.reduceAdd, Int.reduceSub, Int.reduceMul]; try refine okTr_and rfl ?_
  refine CallK.u1 (varint_ReadInt s 16 0 (by decide) hs.ok hs.bys) rfl ?_
  generalize hu : (s.int 16).1 = u at *
  generalize (s.int 16).2 = z at *
  obtain ⟨N, hN⟩ : ∃ N, z.toNat = N := ⟨_, rfl⟩
  have hz : z = (N : Int) := by omega
  subst hz
  rw [Int.toNat_natCast]
  (simp only [go_sem, Nat.reduceAdd, Nat.reduceMul, Int.reduceToNat, Nat.reduceLeDiff, Int.reduceLE, Int.reduceLT, ↓reduceIte, Int.reduceBEq, Int.reduceBNe, Int.reduceAdd, Int.reduceSub, Int.reduceMul]; try refine okTr_and rfl ?_)
  refine loop_of (α := RS × List Lk) (fun a => [.ref 0 0, uA pos, .any, .any, .any, .sl (.row 1) 2 (lks a.2), .any, .any, .any, .any, .any, iA N, iA a.2.length, .any, .any, .any, .any, .any, .any, .any, .any, .any, .any, .any, .any, .any, .any, .any, .any, .any, .any, .any, .any, .any, .any, .any, .any, .any, .any, .any, .any, .any, .any, .any, .any, .any, .any, .any, .any, .any, .any, .any, .any, .any, .any]) (fun a => [rdr a.1, .row 2 a.2.length]) ((linkF pos).On u N) (fun a => N - a.2.length) (u, []) (Fmt.On.start hi1 N) ((Wk.row 5 2 rfl (.inr rfl) (by decide)).trans (Wk.to (by simp) (by simp [leT, lks]))) ?_
  rintro ⟨t, acc⟩ ho
  have hla := ho.len
  rw [hi2] at hla
  have h1 := ho.ok
  have h2 := ho.l
  have h6 := ho.res
  have hwf := ho.wf
  simp only at h1 h2 h6 hwf
  have hg := lst_ge hwf
  have htl : t.l.length * 32 ≤ 100000000000000 := by rw [h2, hi2]; exact hn
  (simp only [go_sem, Nat.reduceAdd, Nat.reduceMul, Int.reduceToNat, Nat.reduceLeDiff, Int.reduceLE, Int.reduceLT, ↓reduceIte, Int.reduceBEq, Int.reduceBNe, Int.reduceAdd, Int.reduceSub, Int.reduceMul]; try refine okTr_and rfl ?_)
  by_cases hlt : acc.length < N
  · have q0 : decide ((acc.length : Int) < (N : Int)) = true := by simp; omega
    have ei := i64_succ acc.length (by omega)
    have hx := vint_range (s := t) h1.bys
    obtain ⟨hk1, hk2⟩ := lkHead_keep h1 acc
    obtain ⟨hv1, hv2⟩ := h1.vint
    have hff := linkF_f pos t acc
    have hkl : (t.lkHead acc).l.length * 8 ≤ 140737488355328 := by rw [hk2]; omega
    have hnx : ((t.lkHead acc).fall pos 4).1.code = 0 → (linkF pos).On u N (((t.lkHead acc).fall pos 4).1, acc ++ [⟨lst acc + 1 + t.vint.2, ((t.lkHead acc).fall pos 4).2⟩]) := fun hc => by
      have := ho.next hF hlt (by rw [hff]; exact hc)
      rw [hff] at this; exact this
    have hnb : ¬ ((t.lkHead acc).fall pos 4).1.code = 0 → (linkF pos).many N u [] = (((t.lkHead acc).fall pos 4).1, []) := fun hc => by
      have := many_bad (F := linkF pos) (s := t) hlt (by rw [hff]; exact hc)
      rw [h6, hff] at this; exact this
    have hst : ((t.lkHead acc).fall pos 4).1.code = 0 → lst acc + 1 + t.vint.2 < 18446744073709551616 := fun hc => by
      rcases Int.lt_or_le (lst acc + 1 + t.vint.2) 18446744073709551616 with h | h
      · exact h
      · have hh := fall_code hk1 p0 p1 hc
        unfold RS.lkHead at hh
        by_cases hc0 : t.vint.1.code = 0
        · rw [if_pos ⟨hc0, h⟩] at hh; exact absurd hh (fail_not0 _ _ hc0 (by decide))
        · rw [if_neg fun x => hc0 x.1] at hh; exact absurd hh hc0
    (simp only [go_sem, Nat.reduceAdd, Nat.reduceMul, Int.reduceToNat, Nat.reduceLeDiff, Int.reduceLE, Int.reduceLT, ↓reduceIte, Int.reduceBEq, Int.reduceBNe, Int.reduceAdd, Int.reduceSub, Int.reduceMul, q0]; try refine okTr_and rfl ?_)
    refine CallK.r1 (Reader_At t 0) rfl ?_; (simp only [go_sem, Nat.reduceAdd, Nat.reduceMul, Int.reduceToNat, Nat.reduceLeDiff, Int.reduceLE, Int.reduceLT, ↓reduceIte, Int.reduceBEq, Int.reduceBNe, Int.reduceAdd, Int.reduceSub, Int.reduceMul]; try refine okTr_and rfl ?_)
    refine CallK.u1 (varint_Read t 0 h1.ok h1.bys) rfl ?_; (simp only [go_sem, Nat.reduceAdd, Nat.reduceMul, Int.reduceToNat, Nat.reduceLeDiff, Int.reduceLE, Int.reduceLT, ↓reduceIte, Int.reduceBEq, Int.reduceBNe, Int.reduceAdd, Int.reduceSub, Int.reduceMul]; try refine okTr_and rfl ?_)
    by_cases h0 : 0 < acc.length
    · have q1 : decide ((0 : Int) < (acc.length : Int)) = true := by simp; omega
      have ep := i64_pred acc.length h0 (by omega)
      have g := lks_get acc (acc.length - 1) (by omega)
      have hlg := lst_get acc h0
      obtain ⟨w, hw⟩ : ∃ w, (acc.getD (acc.length - 1) lk0).st = w := ⟨_, rfl⟩
      rw [hw] at hlg
      have g' : (lks acc).getD (acc.length - 1) .any = .agg [uA w, slU (acc.getD (acc.length - 1) lk0).bk] := by rw [g, ← hw]
      have hw0 : 0 ≤ w ∧ w < 18446744073709551616 := by
        have hlw := wf_get (acc.length - 1) (by omega) hwf
        rw [List.nil_append] at hlw
        have hg2 := lst_ge (wf_take (acc.length - 1) hwf)
        have e : acc[acc.length - 1] = acc.getD (acc.length - 1) lk0 := by simp [show acc.length - 1 < acc.length by omega]
        have hl1 : lst (acc.take (acc.length - 1)) < acc[acc.length - 1].st := hlw.1
        have hl2 : acc[acc.length - 1].st < 18446744073709551616 := hlw.2.1
        rw [e, hw] at hl1 hl2
        exact ⟨by have := hg2.1; omega, hl2⟩
      have ex := xor_max hw0.1 hw0.2
      by_cases hov : 18446744073709551615 - w ≤ t.vint.2
      · have q2 : decide (18446744073709551615 - w ≤ t.vint.2) = true := by simpa using hov
        have hhe := lkHead_over (s := t) (acc := acc) (by omega)
        (simp only [go_sem, Nat.reduceAdd, Nat.reduceMul, Int.reduceToNat, Nat.reduceLeDiff, Int.reduceLE, Int.reduceLT, ↓reduceIte, Int.reduceBEq, Int.reduceBNe, Int.reduceAdd, Int.reduceSub, Int.reduceMul, q1, ep, g', lks_length, Int.toNat_natCast, ex, q2]; try refine okTr_and rfl ?_)
        (repeat ((with_reducible refine And.intro ?_ ?_); (· exact sd)))
        refine CallK.u1 (Reader_Fail t.vint.1 13 t.at_ 0) rfl ?_; (simp only [go_sem, Nat.reduceAdd, Nat.reduceMul, Int.reduceToNat, Nat.reduceLeDiff, Int.reduceLE, Int.reduceLT, ↓reduceIte, Int.reduceBEq, Int.reduceBNe, Int.reduceAdd, Int.reduceSub, Int.reduceMul, hhe]; try refine okTr_and rfl ?_)
        refine CallK.u1 (delta_Read (t.lkHead acc) pos 4 0 p0 p1 (by decide) hk1 hkl) rfl ?_; (simp only [go_sem, Nat.reduceAdd, Nat.reduceMul, Int.reduceToNat, Nat.reduceLeDiff, Int.reduceLE, Int.reduceLT, ↓reduceIte, Int.reduceBEq, Int.reduceBNe, Int.reduceAdd, Int.reduceSub, Int.reduceMul]; try refine okTr_and rfl ?_)
        have hbad : ¬ ((t.lkHead acc).fall pos 4).1.code = 0 := fun hc => by have := hst hc; omega
        have hb := hnb hbad
        refine CallK.r1 (Reader_Good ((t.lkHead acc).fall pos 4).1 0) rfl ?_; (simp only [go_sem, Nat.reduceAdd, Nat.reduceMul, Int.reduceToNat, Nat.reduceLeDiff, Int.reduceLE, Int.reduceLT, ↓reduceIte, Int.reduceBEq, Int.reduceBNe, Int.reduceAdd, Int.reduceSub, Int.reduceMul, good_false hbad]; try refine okTr_and rfl ?_)
        (refine FinK.nilk 4 2 rfl ?_; simp only [List.set_cons_zero, List.set_cons_succ])
        ((refine FinK.finB r123 [0] ?_ ?_); (· first | with_reducible rfl | (simp [hb, lks_nil]; done) | rfl); (· simp [resAL, resA1, loadA, oneOr, hb, lks_nil]))
      · have q2 : decide (18446744073709551615 - w ≤ t.vint.2) = false := by simpa using hov
        have hhe := lkHead_fits (s := t) (acc := acc) (by omega)
        have e1 : IntKind.u64.wrap (w + 1) = w + 1 := IntWalk.u64_in _ (by omega)
        have e2 : IntKind.u64.wrap (t.vint.2 + (w + 1)) = lst acc + 1 + t.vint.2 := by rw [IntWalk.u64_in _ (by omega)]; omega
        rw [hhe] at hnx hnb hkl
        (simp only [go_sem, Nat.reduceAdd, Nat.reduceMul, Int.reduceToNat, Nat.reduceLeDiff, Int.reduceLE, Int.reduceLT, ↓reduceIte, Int.reduceBEq, Int.reduceBNe, Int.reduceAdd, Int.reduceSub, Int.reduceMul, q1, ep, g', lks_length, Int.toNat_natCast, ex, q2, e1, e2]; try refine okTr_and rfl ?_)
        (repeat ((with_reducible refine And.intro ?_ ?_); (· exact sd)))
        refine CallK.u1 (delta_Read t.vint.1 pos 4 0 p0 p1 (by decide) hv1 hkl) rfl ?_; (simp only [go_sem, Nat.reduceAdd, Nat.reduceMul, Int.reduceToNat, Nat.reduceLeDiff, Int.reduceLE, Int.reduceLT, ↓reduceIte, Int.reduceBEq, Int.reduceBNe, Int.reduceAdd, Int.reduceSub, Int.reduceMul]; try refine okTr_and rfl ?_)
        by_cases hc : (t.vint.1.fall pos 4).1.code = 0
        · have hon := hnx hc
          have hl2 := hon.len
          rw [List.length_append, List.length_singleton, hi2] at hl2
          refine CallK.r1 (Reader_Good (t.vint.1.fall pos 4).1 0) rfl ?_; (simp only [go_sem, Nat.reduceAdd, Nat.reduceMul, Int.reduceToNat, Nat.reduceLeDiff, Int.reduceLE, Int.reduceLT, ↓reduceIte, Int.reduceBEq, Int.reduceBNe, Int.reduceAdd, Int.reduceSub, Int.reduceMul, good_true hc, lks_snoc, lks_length, ei]; try refine okTr_and rfl ?_)
          (repeat ((with_reducible refine And.intro ?_ ?_); (· exact sd)))
          exact ⟨((t.vint.1.fall pos 4).1, acc ++ [⟨lst acc + 1 + t.vint.2, (t.vint.1.fall pos 4).2⟩]), hon, by simp; omega, Wk.sel [0, 1] (by simp) rfl (by simp) rfl (by simp [ixs_z, rdr_ren]) (by simp [selT, ixs_z, lks, ixs])⟩
        · have hb := hnb hc
          refine CallK.r1 (Reader_Good (t.vint.1.fall pos 4).1 0) rfl ?_; (simp only [go_sem, Nat.reduceAdd, Nat.reduceMul, Int.reduceToNat, Nat.reduceLeDiff, Int.reduceLE, Int.reduceLT, ↓reduceIte, Int.reduceBEq, Int.reduceBNe, Int.reduceAdd, Int.reduceSub, Int.reduceMul, good_false hc]; try refine okTr_and rfl ?_)
          (refine FinK.nilk 4 2 rfl ?_; simp only [List.set_cons_zero, List.set_cons_succ])
          ((refine FinK.finB r123 [0] ?_ ?_); (· first | with_reducible rfl | (simp [hb, lks_nil]; done) | rfl); (· simp [resAL, resA1, loadA, oneOr, hb, lks_nil]))
    · have hnil : acc = [] := List.eq_nil_of_length_eq_zero (by omega)
      have q1 : decide ((0 : Int) < (acc.length : Int)) = false := by rw [hnil]; rfl
      have hhe := lkHead_nil h1
      rw [← hnil] at hhe
      rw [hhe] at hnx hnb hkl
      have hl0 : lst acc = -1 := by rw [hnil]; rfl
      have e2 : t.vint.2 = lst acc + 1 + t.vint.2 := by omega
      (simp only [go_sem, Nat.reduceAdd, Nat.reduceMul, Int.reduceToNat, Nat.reduceLeDiff, Int.reduceLE, Int.reduceLT, ↓reduceIte, Int.reduceBEq, Int.reduceBNe, Int.reduceAdd, Int.reduceSub, Int.reduceMul, q1]; try refine okTr_and rfl ?_)
      refine CallK.u1 (delta_Read t.vint.1 pos 4 0 p0 p1 (by decide) hv1 hkl) rfl ?_; (simp only [go_sem, Nat.reduceAdd, Nat.reduceMul, Int.reduceToNat, Nat.reduceLeDiff, Int.reduceLE, Int.reduceLT, ↓reduceIte, Int.reduceBEq, Int.reduceBNe, Int.reduceAdd, Int.reduceSub, Int.reduceMul]; try refine okTr_and rfl ?_)
      by_cases hc : (t.vint.1.fall pos 4).1.code = 0
      · have hon := hnx hc
        have hl2 := hon.len
        rw [List.length_append, List.length_singleton, hi2] at hl2
        rw [← e2] at hon
        have esn : lks acc ++ [.agg [uA t.vint.2, slU (t.vint.1.fall pos 4).2]] = lks (acc ++ [⟨t.vint.2, (t.vint.1.fall pos 4).2⟩]) := lks_snoc acc ⟨t.vint.2, (t.vint.1.fall pos 4).2⟩
        refine CallK.r1 (Reader_Good (t.vint.1.fall pos 4).1 0) rfl ?_; (simp only [go_sem, Nat.reduceAdd, Nat.reduceMul, Int.reduceToNat, Nat.reduceLeDiff, Int.reduceLE, Int.reduceLT, ↓reduceIte, Int.reduceBEq, Int.reduceBNe, Int.reduceAdd, Int.reduceSub, Int.reduceMul, good_true hc, esn, lks_length, ei]; try refine okTr_and rfl ?_)
        (repeat ((with_reducible refine And.intro ?_ ?_); (· exact sd)))
        exact ⟨((t.vint.1.fall pos 4).1, acc ++ [⟨t.vint.2, (t.vint.1.fall pos 4).2⟩]), hon, by simp; omega, Wk.sel [0, 1] (by simp) rfl (by simp) rfl (by simp [ixs_z, rdr_ren]) (by simp [selT, ixs_z, lks, ixs])⟩
      · have hb := hnb hc
        refine CallK.r1 (Reader_Good (t.vint.1.fall pos 4).1 0) rfl ?_; (simp only [go_sem, Nat.reduceAdd, Nat.reduceMul, Int.reduceToNat, Nat.reduceLeDiff, Int.reduceLE, Int.reduceLT, ↓reduceIte, Int.reduceBEq, Int.reduceBNe, Int.reduceAdd, Int.reduceSub, Int.reduceMul, good_false hc]; try refine okTr_and rfl ?_)
        (refine FinK.nilk 4 2 rfl ?_; simp only [List.set_cons_zero, List.set_cons_succ])
        ((refine FinK.finB r123 [0] ?_ ?_); (· first | with_reducible rfl | (simp [hb, lks_nil]; done) | rfl); (· simp [resAL, resA1, loadA, oneOr, hb, lks_nil]))
  · have q0 : decide ((acc.length : Int) < (N : Int)) = false := by simp; omega
    have hb := many_end (F := linkF pos) (s := t) (N := N) (acc := acc) (by omega)
    rw [h6] at hb
    (simp only [go_sem, Nat.reduceAdd, Nat.reduceMul, Int.reduceToNat, Nat.reduceLeDiff, Int.reduceLE, Int.reduceLT, ↓reduceIte, Int.reduceBEq, Int.reduceBNe, Int.reduceAdd, Int.reduceSub, Int.reduceMul, q0]; try refine okTr_and rfl ?_)
    (refine FinK.untag 4 rfl ?_; simp only [untag1_sl, List.set_cons_zero, List.set_cons_succ])
    ((refine FinK.finB r123 [0] ?_ ?_); (· first | with_reducible rfl | (simp [hb]; done) | rfl); (· simp [resAL, resA1, loadA, oneOr, hb]))
theorem link_Read (s : RS) (pos : Int) (i : Nat) (p0 : 0 ≤ pos) (p1 : pos < 18446744073709551616) (hs : ROk s) (hn : s.l.length * 32 ≤ 100000000000000) : Ct Tryz.prog 123 [.ref i 0, uA pos] [(i, rdr s)] (fun _ => slL (s.links pos).2) [(i, rdr ((s.links pos).1))] (fun _ => []) := Ct.u1 (link_Read0 s pos p0 p1 hs hn) i cl (fun ρ => rdr_ren ρ _) (fun ρ => rdr_ren ρ _) (rdr_dead _) cl
set_option maxHeartbeats 2000000 in
set_option maxRecDepth 100000 in
theorem ref23_Read0 (s : RS) (pos : Int) (p0 : 0 ≤ pos) (p1 : pos < 18446744073709551616) (hs : ROk s) (hn : s.l.length * 32 ≤ 100000000000000) : Does Tryz.prog 127 [cv s, uA pos] [] (.tup [cv (s.links pos).1, slL (s.links pos).2]) [] := by
  have hF := linkF_ok p0 p1
  have hir := int_range (s := s) (m := 16) hs.bys
  obtain ⟨hi1, hi2⟩ := hs.int 16
  unfold RS.links Fmt.counted
  refine Does.runA Tryz.func127 b127 n127 Tryz.ntmps127 ?_; simp only [c127, go_sem, Nat.reduceAdd, Nat.reduceMul, Int.reduceToNat, Nat.reduceLeDiff, Int.reduceLE, Int.reduceLT, ↓reduceIte, Int.reduceBEq, Int.reduceBNe, Int.reduceAdd, Int.reduceSub, Int.reduceMul]; try refine okTr_and rfl ?_
  refine CallK.p (ref04_Int s 16 (by decide) hs) ?_
  generalize hu : (s.int 16).1 = u at *
  generalize (s.int 16).2 = z at *
  obtain ⟨N, hN⟩ : ∃ N, z.toNat = N := ⟨_, rfl⟩
  have hz : z = (N : Int) := by omega
  subst hz
  rw [Int.toNat_natCast]
  (simp only [go_sem, Nat.reduceAdd, Nat.reduceMul, Int.reduceToNat, Nat.reduceLeDiff, Int.reduceLE, Int.reduceLT, ↓reduceIte, Int.reduceBEq, Int.reduceBNe, Int.reduceAdd, Int.reduceSub, Int.reduceMul]; try refine okTr_and rfl ?_)
  refine loop_of (α := RS × List Lk) (fun a => [.any, uA pos, .any, .any, .ref 1 0, .any, .ref 2 0, iA N, .sl (.row 3) 2 (lks a.2), iA a.2.length, .any, .any, .any, .any, .any, .any, .any, .any, .any, .any, .any, .any, .any, .any, .any, .any, .any, .any, .any, .any, .any, .any, .any, .any, .any, .any, .any, .any, .any, .any, .any, .any, .any, .any, .any, .any, .any, .any, .any, .any, .any, .any, .any, .any, .any, .any, .any, .any, .any, .any, .any, .any, .any, .any, .any, .any, .any, .any, .any, .any, .any, .any, .any, .any, .any, .any, .any, .any, .any, .any, .any, .any, .any, .any, .any, .any, .any, .any]) (fun a => [.cells [slA .u8 s.l, iA s.at_, iA s.code, iA s.fat], .cells [.sl .full 1 [], iA 0, iA 0, iA 0], .cells [slA .u8 a.1.l, iA a.1.at_, iA a.1.code, iA a.1.fat], .row 2 a.2.length]) (fun a => (linkF pos).On2 u N a ∧ (a.1.code = 0 → (linkF pos).On u N a)) (fun a => N - a.2.length) (u, []) ⟨.inl (Fmt.On.start hi1 N), fun _ => Fmt.On.start hi1 N⟩ ((Wk.row 8 2 rfl (.inr rfl) (by decide)).trans (Wk.to (by simp) (by simp [leT, lks]))) ?_
  rintro ⟨t, acc⟩ ⟨ho2, hoc⟩
  have hlen2 : acc.length ≤ s.l.length + 1 := by
    rcases ho2 with ho | ⟨_, _, _, _, _, hle2⟩
    · have := ho.len; rw [hi2] at this; omega
    · rw [hi2] at hle2; exact hle2
  by_cases hc0 : t.code = 0
  · have ho := hoc hc0
    have hla := ho.len
    rw [hi2] at hla
    have h1 := ho.ok
    have h2 := ho.l
    have h6 := ho.res
    have hwf := ho.wf
    simp only at h1 h2 h6 hwf
    have hg := lst_ge hwf
    have htl : t.l.length * 32 ≤ 100000000000000 := by rw [h2, hi2]; exact hn
    by_cases hlt : acc.length < N
    · have q0 : decide ((acc.length : Int) < (N : Int)) = true := by simp; omega
      have qc : (t.code == 0) = true := by simpa using hc0
      have ei := i64_succ acc.length (by omega)
      have hx := vint_range (s := t) h1.bys
      obtain ⟨hk1, hk2⟩ := lkHead_keep h1 acc
      obtain ⟨hv1, hv2⟩ := h1.vint
      have hff := linkF_f pos t acc
      have hkl : (t.lkHead acc).l.length * 8 ≤ 100000000000000 := by rw [hk2]; omega
      have hfk := fall_keep hk1 p1 4
      have hfl := hfk.2.trans (hk2.trans h2)
      have hnx : ((t.lkHead acc).fall pos 4).1.code = 0 → (linkF pos).On u N (((t.lkHead acc).fall pos 4).1, acc ++ [⟨lst acc + 1 + t.vint.2, ((t.lkHead acc).fall pos 4).2⟩]) := fun hc => by
        have := ho.next hF hlt (by rw [hff]; exact hc)
        rw [hff] at this; exact this
      have hnb : ¬ ((t.lkHead acc).fall pos 4).1.code = 0 → (linkF pos).many N u [] = (((t.lkHead acc).fall pos 4).1, []) := fun hc => by
        have := many_bad (F := linkF pos) (s := t) hlt (by rw [hff]; exact hc)
        rw [h6, hff] at this; exact this
      have hst : ((t.lkHead acc).fall pos 4).1.code = 0 → t.vint.1.code = 0 ∧ lst acc + 1 + t.vint.2 < 18446744073709551616 := fun hc => by
        have hh := fall_code hk1 p0 p1 hc
        unfold RS.lkHead at hh
        by_cases hb : t.vint.1.code = 0 ∧ 18446744073709551616 ≤ lst acc + 1 + t.vint.2
        · rw [if_pos hb] at hh; exact absurd hh (fail_not0 _ _ hb.1 (by decide))
        · rw [if_neg hb] at hh; exact ⟨hh, by omega⟩
      -- the next state, whatever number was laid
      have next : ∀ y : Int, (((t.lkHead acc).fall pos 4).1.code = 0 → y = lst acc + 1 + t.vint.2) →
          ((linkF pos).On2 u N (((t.lkHead acc).fall pos 4).1, acc ++ [⟨y, ((t.lkHead acc).fall pos 4).2⟩]) ∧ (((t.lkHead acc).fall pos 4).1.code = 0 → (linkF pos).On u N (((t.lkHead acc).fall pos 4).1, acc ++ [⟨y, ((t.lkHead acc).fall pos 4).2⟩]))) := fun y hy => by
        by_cases hc : ((t.lkHead acc).fall pos 4).1.code = 0
        · have := hnx hc
          rw [← hy hc] at this
          exact ⟨.inl this, fun _ => this⟩
        · exact ⟨.inr ⟨hc, hnb hc, hfk.1, hfl, by simp; omega, by rw [hi2]; simp; omega⟩, fun h => absurd h hc⟩
      (simp only [go_sem, Nat.reduceAdd, Nat.reduceMul, Int.reduceToNat, Nat.reduceLeDiff, Int.reduceLE, Int.reduceLT, ↓reduceIte, Int.reduceBEq, Int.reduceBNe, Int.reduceAdd, Int.reduceSub, Int.reduceMul, q0, qc]; try refine okTr_and rfl ?_)
      refine CallK.p (ref04_Read t h1) ?_
      by_cases h0 : 0 < acc.length
      · have q1 : decide ((0 : Int) < (acc.length : Int)) = true := by simp; omega
        have ep := i64_pred acc.length h0 (by omega)
        have g := lks_get acc (acc.length - 1) (by omega)
        have hlg := lst_get acc h0
        have hw0 : 0 ≤ (acc.getD (acc.length - 1) lk0).st ∧ (acc.getD (acc.length - 1) lk0).st < 18446744073709551616 := by
          have hlw := wf_get (acc.length - 1) (by omega) hwf
          rw [List.nil_append] at hlw
          have hg2 := lst_ge (wf_take (acc.length - 1) hwf)
          have e : acc[acc.length - 1] = acc.getD (acc.length - 1) lk0 := by simp [show acc.length - 1 < acc.length by omega]
          have hl1 : lst (acc.take (acc.length - 1)) < acc[acc.length - 1].st := hlw.1
          have hl2 : acc[acc.length - 1].st < 18446744073709551616 := hlw.2.1
          rw [e] at hl1 hl2
          exact ⟨by have := hg2.1; omega, hl2⟩
        have g' : ∃ w, (lks acc).getD (acc.length - 1) .any = .agg [uA w, slU (acc.getD (acc.length - 1) lk0).bk] ∧ lst acc = w ∧ 0 ≤ w ∧ w < 18446744073709551616 := ⟨_, g, hlg, hw0⟩
        have g2 := g'
        clear g' hw0 hlg g
        have w0 : ∃ w, lst acc = w := ⟨_, rfl⟩
        have g3 : (lks acc).getD (acc.length - 1) .any = .agg [uA (lst acc), slU (acc.getD (acc.length - 1) lk0).bk] ∧ 0 ≤ lst acc ∧ lst acc < 18446744073709551616 := by
          obtain ⟨w, a1, a2, a3, a4⟩ := g2
          rw [a2]; exact ⟨a1, a3, a4⟩
        have g := g3.1
        have gw0 := g3.2.1
        have gw1 := g3.2.2
        clear g2 g3 w0
        by_cases hc : t.vint.1.code = 0
        · have q3 : (t.vint.1.code == 0) = true := by simpa using hc
          have e0 : IntKind.u64.wrap (18446744073709551615 - lst acc) = 18446744073709551615 - lst acc := IntWalk.u64_in _ (by omega)
          by_cases hov : 18446744073709551616 ≤ lst acc + 1 + t.vint.2
          · have hhe := lkHead_over (s := t) (acc := acc) hov
            have hnxt := next (IntKind.u64.wrap (IntKind.u64.wrap (lst acc + t.vint.2) + 1)) (fun h => by have := (hst h).2; omega)
            by_cases hgt : 18446744073709551615 - lst acc < t.vint.2
            · have q4 : decide (18446744073709551615 - lst acc < t.vint.2) = true := by simpa using hgt
              (simp only [go_sem, Nat.reduceAdd, Nat.reduceMul, Int.reduceToNat, Nat.reduceLeDiff, Int.reduceLE, Int.reduceLT, ↓reduceIte, Int.reduceBEq, Int.reduceBNe, Int.reduceAdd, Int.reduceSub, Int.reduceMul, q1, q3, ep, g, lks_length, Int.toNat_natCast, e0, q4]; try refine okTr_and rfl ?_)
              (repeat ((with_reducible refine And.intro ?_ ?_); (· exact sd)))
              refine CallK.p (ref02_Fail t.vint.1 13 t.at_) ?_; (simp only [go_sem, Nat.reduceAdd, Nat.reduceMul, Int.reduceToNat, Nat.reduceLeDiff, Int.reduceLE, Int.reduceLT, ↓reduceIte, Int.reduceBEq, Int.reduceBNe, Int.reduceAdd, Int.reduceSub, Int.reduceMul, hhe]; try refine okTr_and rfl ?_)
              refine CallK.p (ref22_Read (t.lkHead acc) pos 4 p0 p1 (by decide) hk1 hkl) ?_; (simp only [go_sem, Nat.reduceAdd, Nat.reduceMul, Int.reduceToNat, Nat.reduceLeDiff, Int.reduceLE, Int.reduceLT, ↓reduceIte, Int.reduceBEq, Int.reduceBNe, Int.reduceAdd, Int.reduceSub, Int.reduceMul, show ∀ y, lks acc ++ [.agg [uA y, slU ((t.lkHead acc).fall pos 4).2]] = lks (acc ++ [⟨y, ((t.lkHead acc).fall pos 4).2⟩]) from fun y => lks_snoc acc ⟨y, _⟩, lks_length, ei]; try refine okTr_and rfl ?_)
              (repeat ((with_reducible refine And.intro ?_ ?_); (· exact sd)))
              exact ⟨(((t.lkHead acc).fall pos 4).1, acc ++ [⟨IntKind.u64.wrap (IntKind.u64.wrap (lst acc + t.vint.2) + 1), ((t.lkHead acc).fall pos 4).2⟩]), hnxt, by simp; omega, Wk.sel [0, 1, 2, 3] (by simp) rfl (by simp) rfl (by simp [ixs_z]) (by simp [selT, ixs_z, ixs])⟩
            · have q4 : decide (18446744073709551615 - lst acc < t.vint.2) = false := by simpa using hgt
              have q5 : (t.vint.2 == 18446744073709551615 - lst acc) = true := by simp only [beq_iff_eq]; omega
              (simp only [go_sem, Nat.reduceAdd, Nat.reduceMul, Int.reduceToNat, Nat.reduceLeDiff, Int.reduceLE, Int.reduceLT, ↓reduceIte, Int.reduceBEq, Int.reduceBNe, Int.reduceAdd, Int.reduceSub, Int.reduceMul, q1, q3, ep, g, lks_length, Int.toNat_natCast, e0, q4, q5]; try refine okTr_and rfl ?_)
              (repeat ((with_reducible refine And.intro ?_ ?_); (· exact sd)))
              refine CallK.p (ref02_Fail t.vint.1 13 t.at_) ?_; (simp only [go_sem, Nat.reduceAdd, Nat.reduceMul, Int.reduceToNat, Nat.reduceLeDiff, Int.reduceLE, Int.reduceLT, ↓reduceIte, Int.reduceBEq, Int.reduceBNe, Int.reduceAdd, Int.reduceSub, Int.reduceMul, hhe]; try refine okTr_and rfl ?_)
              refine CallK.p (ref22_Read (t.lkHead acc) pos 4 p0 p1 (by decide) hk1 hkl) ?_; (simp only [go_sem, Nat.reduceAdd, Nat.reduceMul, Int.reduceToNat, Nat.reduceLeDiff, Int.reduceLE, Int.reduceLT, ↓reduceIte, Int.reduceBEq, Int.reduceBNe, Int.reduceAdd, Int.reduceSub, Int.reduceMul, show ∀ y, lks acc ++ [.agg [uA y, slU ((t.lkHead acc).fall pos 4).2]] = lks (acc ++ [⟨y, ((t.lkHead acc).fall pos 4).2⟩]) from fun y => lks_snoc acc ⟨y, _⟩, lks_length, ei]; try refine okTr_and rfl ?_)
              (repeat ((with_reducible refine And.intro ?_ ?_); (· exact sd)))
              exact ⟨(((t.lkHead acc).fall pos 4).1, acc ++ [⟨IntKind.u64.wrap (IntKind.u64.wrap (lst acc + t.vint.2) + 1), ((t.lkHead acc).fall pos 4).2⟩]), hnxt, by simp; omega, Wk.sel [0, 1, 2, 3] (by simp) rfl (by simp) rfl (by simp [ixs_z]) (by simp [selT, ixs_z, ixs])⟩
          · have hhe := lkHead_fits (s := t) (acc := acc) hov
            have q4 : decide (18446744073709551615 - lst acc < t.vint.2) = false := by simp; omega
            have q5 : (t.vint.2 == 18446744073709551615 - lst acc) = false := by simp only [beq_eq_false_iff_ne, ne_eq]; omega
            have e1 : IntKind.u64.wrap (lst acc + t.vint.2) = lst acc + t.vint.2 := IntWalk.u64_in _ (by omega)
            have e2 : IntKind.u64.wrap (lst acc + t.vint.2 + 1) = lst acc + 1 + t.vint.2 := by rw [IntWalk.u64_in _ (by omega)]; omega
            have hnxt := next (lst acc + 1 + t.vint.2) (fun _ => rfl)
            (simp only [go_sem, Nat.reduceAdd, Nat.reduceMul, Int.reduceToNat, Nat.reduceLeDiff, Int.reduceLE, Int.reduceLT, ↓reduceIte, Int.reduceBEq, Int.reduceBNe, Int.reduceAdd, Int.reduceSub, Int.reduceMul, q1, q3, ep, g, lks_length, Int.toNat_natCast, e0, q4, q5, e1, e2]; try refine okTr_and rfl ?_)
            (repeat ((with_reducible refine And.intro ?_ ?_); (· exact sd)))
            rw [← hhe]
            refine CallK.p (ref22_Read (t.lkHead acc) pos 4 p0 p1 (by decide) hk1 hkl) ?_; (simp only [go_sem, Nat.reduceAdd, Nat.reduceMul, Int.reduceToNat, Nat.reduceLeDiff, Int.reduceLE, Int.reduceLT, ↓reduceIte, Int.reduceBEq, Int.reduceBNe, Int.reduceAdd, Int.reduceSub, Int.reduceMul, show ∀ y, lks acc ++ [.agg [uA y, slU ((t.lkHead acc).fall pos 4).2]] = lks (acc ++ [⟨y, ((t.lkHead acc).fall pos 4).2⟩]) from fun y => lks_snoc acc ⟨y, _⟩, lks_length, ei]; try refine okTr_and rfl ?_)
            (repeat ((with_reducible refine And.intro ?_ ?_); (· exact sd)))
            exact ⟨(((t.lkHead acc).fall pos 4).1, acc ++ [⟨lst acc + 1 + t.vint.2, ((t.lkHead acc).fall pos 4).2⟩]), hnxt, by simp; omega, Wk.sel [0, 1, 2, 3] (by simp) rfl (by simp) rfl (by simp [ixs_z]) (by simp [selT, ixs_z, ixs])⟩
        · have q3 : (t.vint.1.code == 0) = false := by simpa using hc
          have hhe : t.lkHead acc = t.vint.1 := by unfold RS.lkHead; rw [if_neg fun x => hc x.1]
          have hnxt := next t.vint.2 (fun h => absurd (hst h).1 hc)
          (simp only [go_sem, Nat.reduceAdd, Nat.reduceMul, Int.reduceToNat, Nat.reduceLeDiff, Int.reduceLE, Int.reduceLT, ↓reduceIte, Int.reduceBEq, Int.reduceBNe, Int.reduceAdd, Int.reduceSub, Int.reduceMul, q1, q3]; try refine okTr_and rfl ?_)
          rw [← hhe]
          refine CallK.p (ref22_Read (t.lkHead acc) pos 4 p0 p1 (by decide) hk1 hkl) ?_; (simp only [go_sem, Nat.reduceAdd, Nat.reduceMul, Int.reduceToNat, Nat.reduceLeDiff, Int.reduceLE, Int.reduceLT, ↓reduceIte, Int.reduceBEq, Int.reduceBNe, Int.reduceAdd, Int.reduceSub, Int.reduceMul, show ∀ y, lks acc ++ [.agg [uA y, slU ((t.lkHead acc).fall pos 4).2]] = lks (acc ++ [⟨y, ((t.lkHead acc).fall pos 4).2⟩]) from fun y => lks_snoc acc ⟨y, _⟩, lks_length, ei]; try refine okTr_and rfl ?_)
          (repeat ((with_reducible refine And.intro ?_ ?_); (· exact sd)))
          exact ⟨(((t.lkHead acc).fall pos 4).1, acc ++ [⟨t.vint.2, ((t.lkHead acc).fall pos 4).2⟩]), hnxt, by simp; omega, Wk.sel [0, 1, 2, 3] (by simp) rfl (by simp) rfl (by simp [ixs_z]) (by simp [selT, ixs_z, ixs])⟩
      · have hnil : acc = [] := List.eq_nil_of_length_eq_zero (by omega)
        have q1 : decide ((0 : Int) < (acc.length : Int)) = false := by rw [hnil]; rfl
        have hhe := lkHead_nil h1
        rw [← hnil] at hhe
        have hl0 : lst acc = -1 := by rw [hnil]; rfl
        have hnxt := next t.vint.2 (fun _ => by omega)
        (simp only [go_sem, Nat.reduceAdd, Nat.reduceMul, Int.reduceToNat, Nat.reduceLeDiff, Int.reduceLE, Int.reduceLT, ↓reduceIte, Int.reduceBEq, Int.reduceBNe, Int.reduceAdd, Int.reduceSub, Int.reduceMul, q1]; try refine okTr_and rfl ?_)
        rw [← hhe]
        refine CallK.p (ref22_Read (t.lkHead acc) pos 4 p0 p1 (by decide) hk1 hkl) ?_; (simp only [go_sem, Nat.reduceAdd, Nat.reduceMul, Int.reduceToNat, Nat.reduceLeDiff, Int.reduceLE, Int.reduceLT, ↓reduceIte, Int.reduceBEq, Int.reduceBNe, Int.reduceAdd, Int.reduceSub, Int.reduceMul, show ∀ y, lks acc ++ [.agg [uA y, slU ((t.lkHead acc).fall pos 4).2]] = lks (acc ++ [⟨y, ((t.lkHead acc).fall pos 4).2⟩]) from fun y => lks_snoc acc ⟨y, _⟩, lks_length, ei]; try refine okTr_and rfl ?_)
        (repeat ((with_reducible refine And.intro ?_ ?_); (· exact sd)))
        exact ⟨(((t.lkHead acc).fall pos 4).1, acc ++ [⟨t.vint.2, ((t.lkHead acc).fall pos 4).2⟩]), hnxt, by simp; omega, Wk.sel [0, 1, 2, 3] (by simp) rfl (by simp) rfl (by simp [ixs_z]) (by simp [selT, ixs_z, ixs])⟩
    · have q0 : decide ((acc.length : Int) < (N : Int)) = false := by simp; omega
      have hb := many_end (F := linkF pos) (s := t) (N := N) (acc := acc) (by omega)
      rw [h6] at hb
      have q3 : (t.code != 0) = false := by simpa using hc0
      (simp only [go_sem, Nat.reduceAdd, Nat.reduceMul, Int.reduceToNat, Nat.reduceLeDiff, Int.reduceLE, Int.reduceLT, ↓reduceIte, Int.reduceBEq, Int.reduceBNe, Int.reduceAdd, Int.reduceSub, Int.reduceMul, q0, q3]; try refine okTr_and rfl ?_)
      (refine FinK.untag 5 rfl ?_; simp only [untag1_sl, List.set_cons_zero, List.set_cons_succ])
      ((refine FinK.finB r127 [] ?_ ?_); (· first | with_reducible rfl | (simp [hb]; done) | rfl); (· simp [resAL, resA1, loadA, oneOr, hb]))
  · have q2 : (t.code == 0) = false := by simpa using hc0
    have q3 : (t.code != 0) = true := by simpa using hc0
    have hb : (linkF pos).many N u [] = (t, []) := by
      rcases ho2 with ho | ⟨_, h, _⟩
      · by_cases hlt : acc.length < N
        · have hx : ((linkF pos).f t acc).1 = t := by
            rw [linkF_f]
            have e1 : t.vint = (t, 0) := vint_bad hc0
            have e2 : t.lkHead acc = t := by unfold RS.lkHead; rw [e1, if_neg fun x => hc0 x.1]
            have e3 : t.int 4 = (t, 0) := by unfold RS.int RS.most; rw [e1, if_pos (by decide), if_neg (by simp)]
            rw [e2]
            unfold RS.fall Fmt.counted
            rw [e3]; rfl
          have := many_bad (F := linkF pos) (s := t) (acc := acc) hlt (by rw [hx]; exact hc0)
          have h6 := ho.res
          simp only at h6
          rw [h6, hx] at this
          exact this
        · have hb := many_end (F := linkF pos) (s := t) (N := N) (acc := acc) (by omega)
          have h6 := ho.res
          simp only at h6
          rw [h6] at hb
          have hnil := many_bad_nil (F := linkF pos) N u [] (.inr rfl) (by rw [hb]; exact hc0)
          rw [hb] at hnil
          simp only at hnil
          rw [hb, hnil]
      · exact h
    by_cases hlt : acc.length < N
    · have q1 : decide ((acc.length : Int) < N) = true := by simpa using hlt
      (simp only [go_sem, Nat.reduceAdd, Nat.reduceMul, Int.reduceToNat, Nat.reduceLeDiff, Int.reduceLE, Int.reduceLT, ↓reduceIte, Int.reduceBEq, Int.reduceBNe, Int.reduceAdd, Int.reduceSub, Int.reduceMul, q1, q2, q3]; try refine okTr_and rfl ?_)
      (refine FinK.nilk 5 2 rfl ?_; simp only [List.set_cons_zero, List.set_cons_succ])
      ((refine FinK.finB r127 [] ?_ ?_); (· first | with_reducible rfl | (simp [hb, lks_nil]; done) | rfl); (· simp [resAL, resA1, loadA, oneOr, hb, lks_nil]))
    · have q1 : decide ((acc.length : Int) < N) = false := by simpa using hlt
      (simp only [go_sem, Nat.reduceAdd, Nat.reduceMul, Int.reduceToNat, Nat.reduceLeDiff, Int.reduceLE, Int.reduceLT, ↓reduceIte, Int.reduceBEq, Int.reduceBNe, Int.reduceAdd, Int.reduceSub, Int.reduceMul, q1, q3]; try refine okTr_and rfl ?_)
      (refine FinK.nilk 5 2 rfl ?_; simp only [List.set_cons_zero, List.set_cons_succ])
      ((refine FinK.finB r127 [] ?_ ?_); (· first | with_reducible rfl | (simp [hb, lks_nil]; done) | rfl); (· simp [resAL, resA1, loadA, oneOr, hb, lks_nil]))
theorem ref23_Read (s : RS) (pos : Int) (p0 : 0 ≤ pos) (p1 : pos < 18446744073709551616) (hs : ROk s) (hn : s.l.length * 32 ≤ 100000000000000) : Ct Tryz.prog 127 [cv s, uA pos] [] (fun _ => .tup [cv (s.links pos).1, slL (s.links pos).2]) [] (fun _ => []) := (ref23_Read0 s pos p0 p1 hs hn).toCt cl cl
end Go.Proofs.YtnfagphepkeedaaGreat
end
section
namespace Go.Proofs.YtnfagphepkeedaaGreat
open Go.RowKit

section
variable {P : Program} {f : FuncId} {args args₀ : List AV} {S : List AObj} {K : KT}
/-- A row that is given, and grows. -/
theorem Ct.o1 {o o' : AObj} {r₀ r : AV} (h : Does P f args₀ [o] r₀ [o']) (i : Nat) (ha : ∀ N, args₀.map (fun x => x.ren (ixs [i] N)) = args) (ho : ∀ ρ, o.ren ρ = o) (ho' : ∀ ρ, o'.ren ρ = o') (hd : o ≠ .dead) (hr : ∀ N, r₀.ren (ixs [i] N) = r) :
    Ct P f args [(i, o)] (fun _ => r) [(i, o')] (fun _ => []) :=
  Ct.mk h [i] (by simp) rfl (by simp) (by simpa using hd) (fun n N => ha N) (fun n N => by simpa using hr N) (fun n N => by simp [ho]) (.inl fun n N => by simp [ho']) (fun n N => rfl)
theorem CallK.o1 {r : AV} {i : Nat} {o o' : AObj} (h : Ct P f args [(i, o)] (fun _ => r) [(i, o')] (fun _ => [])) (hS : S[i]? = some o) (hK : K r [i] [(i, o')] []) : CallK P f args S K := CallK.of h (by simpa using hS) (by simp) hK
end
section
variable {P : Program} {f : FuncId} {args args' : List AV} {S : List AObj} {K : KT}
end
section
variable {P : Program} {f : FuncId} {args args' : List AV} {S : List AObj} {K : KT} {m : Nat} {fn : Func}
end
/-- One value told less exactly than another: whose its slices are is forgotten, an empty slice is one of anything. -/
structure Wa (x y : AV) : Prop where
  len : x.cells.length = y.cells.length
  val : ∀ (G : Gh) (v : Value), Rep G x v → Rep G y v
  cel : ∀ (j : Nat) (a b : AV), x.cells[j]? = some a → y.cells[j]? = some b → ∀ (G : Gh) (v : Value), Rep G a v → Rep G b v
def WaL (xs ys : List AV) : Prop := xs.length = ys.length ∧ ∀ (j : Nat) (x y : AV), xs[j]? = some x → ys[j]? = some y → Wa x y
theorem Wa.refl (x : AV) : Wa x x := ⟨rfl, fun _ _ r => r, fun j a b ha hb G v r => by rw [ha] at hb; injection hb with hb; subst hb; exact r⟩
theorem WaL.nil : WaL [] [] := ⟨rfl, fun j x y h => by simp at h⟩
theorem WaL.cons {x y : AV} {xs ys : List AV} (h : Wa x y) (k : WaL xs ys) : WaL (x :: xs) (y :: ys) := by
  refine ⟨by simp [k.1], fun j a b ha hb => ?_⟩
  cases j with
  | zero => simp at ha hb; subst ha hb; exact h
  | succ j => simp at ha hb; exact k.2 j a b ha hb
theorem WaL.refl (xs : List AV) : WaL xs xs := ⟨rfl, fun j x y hx hy => by rw [hx] at hy; injection hy with hy; subst hy; exact .refl _⟩
theorem WaL.map {α : Type} {f g : α → AV} (h : ∀ x, Wa (f x) (g x)) (l : List α) : WaL (l.map f) (l.map g) := ⟨by simp, fun j x y hx hy => by
  obtain ⟨a, ha, rfl⟩ := map_get hx
  obtain ⟨b, hb, rfl⟩ := map_get hy
  rw [ha] at hb; injection hb with hb; subst hb; exact h a⟩
theorem WaL.app {xs ys xs' ys' : List AV} (h : WaL xs ys) (k : WaL xs' ys') : WaL (xs ++ xs') (ys ++ ys') := by
  refine ⟨by simp [h.1, k.1], fun j x y hx hy => ?_⟩
  rw [List.getElem?_append] at hx hy
  rw [h.1] at hx
  split at hx
  · rename_i hl; rw [if_pos hl] at hy; exact h.2 j x y hx hy
  · rename_i hl; rw [if_neg hl] at hy; exact k.2 _ x y hx hy
theorem one_cel {x y : AV} (hx : x.cells = [x]) (hy : y.cells = [y]) (h : ∀ (G : Gh) (v : Value), Rep G x v → Rep G y v) : Wa x y := by
  refine ⟨by rw [hx, hy]; rfl, h, fun j a b ha hb G v r => ?_⟩
  rw [hx] at ha
  rw [hy] at hb
  cases j with
  | zero => simp at ha hb; subst ha hb; exact h G v r
  | succ j => simp at ha
theorem Wa.sl {t t' : Tag} {k k' : Nat} {xs ys : List AV} (ht : t' = .none ∨ t' = t) (hk : k = k' ∨ xs = []) (hw : WaL xs ys) : Wa (.sl t k xs) (.sl t' k' ys) := by
  obtain ⟨hl, h⟩ := hw
  refine one_cel rfl rfl fun G v r => ?_
  cases r with
  | @sl _ _ _ A c b o vs hc hA hk1 h1 h2 h3 ht1 =>
    have htag : TagOk G t' A ys.length c := by
      rcases ht with rfl | rfl
      · trivial
      · rw [← hl]; exact ht1
    have main : Rep G (.sl t' k' ys) (.slice A ys.length c) := by
      rcases hk with rfl | rfl
      · refine .sl (b := b) (o := o) vs (by rw [← hl]; exact hc) (by rw [← hl]; exact hA) (fun i y hy => ?_) (by rw [← hl]; exact h1) (by rw [← hl]; exact h2) (fun i j y z hy hz => ?_) htag
        · have hi : i < xs.length := by rw [hl]; exact (List.getElem?_eq_some_iff.1 hy).1
          have hx := List.getElem?_eq_getElem hi
          rw [← (h i _ y hx hy).len]; exact hk1 i _ hx
        · have hi : i < xs.length := by rw [hl]; exact (List.getElem?_eq_some_iff.1 hy).1
          have hx := List.getElem?_eq_getElem hi
          have hw := h i _ y hx hy
          have hj : j < xs[i].cells.length := by rw [hw.len]; exact (List.getElem?_eq_some_iff.1 hz).1
          have hu := List.getElem?_eq_getElem hj
          exact hw.cel j _ z hu hz G _ (h3 i j _ _ hx hu)
      · obtain rfl : ys = [] := List.eq_nil_of_length_eq_zero (by rw [← hl]; rfl)
        exact .sl (b := b) (o := o) vs (by simp) (by simp) (by simp) (by simp) (by simp) (by simp) htag
    rw [← hl] at main; exact main
theorem Wa.agg {xs ys : List AV} (hw : WaL xs ys) : Wa (.agg xs) (.agg ys) := by
  obtain ⟨hl, h⟩ := hw
  refine ⟨hl, fun G v r => ?_, fun j a b ha hb G v r => (h j a b ha hb).val G v r⟩
  cases r with
  | @agg _ vs h0 h2 h3 =>
    refine .agg (by rw [← hl]; exact h0) h2 fun j y v hy hv => ?_
    have hj : j < xs.length := by rw [hl]; exact (List.getElem?_eq_some_iff.1 hy).1
    have hx := List.getElem?_eq_getElem hj
    exact (h j _ y hx hy).val G v (h3 j _ v hx hv)
theorem Wa.tup {xs ys : List AV} (hw : WaL xs ys) : Wa (.tup xs) (.tup ys) := by
  obtain ⟨hl, h⟩ := hw
  refine one_cel rfl rfl fun G v r => ?_
  cases r with
  | @tup _ vs h0 h3 =>
    refine .tup (by rw [← hl]; exact h0) fun j y v hy hv => ?_
    have hj : j < xs.length := by rw [hl]; exact (List.getElem?_eq_some_iff.1 hy).1
    have hx := List.getElem?_eq_getElem hj
    exact (h j _ y hx hy).val G v (h3 j _ v hx hv)
theorem Wa.slN {t : Tag} {k : Nat} {xs ys : List AV} (h : WaL xs ys) : Wa (.sl t k xs) (.sl .none k ys) := .sl (.inl rfl) (.inl rfl) h
theorem Wa.slS {t : Tag} {k : Nat} {xs ys : List AV} (h : WaL xs ys) : Wa (.sl t k xs) (.sl t k ys) := .sl (.inr rfl) (.inl rfl) h
theorem Wa.none {t : Tag} {k : Nat} {xs : List AV} : Wa (.sl t k xs) (.sl .none k xs) := .slN (WaL.refl xs)
theorem Wa.nil {t : Tag} {k k' : Nat} : Wa (.sl t k []) (.sl .none k' []) := .sl (.inl rfl) (.inr rfl) WaL.nil
section
variable {P : Program} {f : FuncId} {args args' : List AV} {S : List AObj} {m : Nat} {fn : Func} {tm : List AV}
theorem Ct.weak {rd : List (Nat × AObj)} {r : Nat → AV} {upd : List (Nat × AObj)} {new : Nat → List AObj} (h : Ct P f args' rd r upd new) (he : WaL args args') : Ct P f args rd r upd new := fun T n h1 h2 => by
  have hd := h T n h1 h2
  refine ⟨hd.1, fun G w vs hw hr => hd.2 G w vs hw ⟨by rw [← he.1]; exact hr.1, fun j y v hy hv => ?_⟩⟩
  have hj : j < args.length := by rw [he.1]; exact (List.getElem?_eq_some_iff.1 hy).1
  have hx := List.getElem?_eq_getElem hj
  exact (he.2 j _ y hx hy).val G v (hr.2 j _ v hx hv)
theorem Wk.wa (t : Nat) {x y : AV} (ht : tm[t]? = some x) (h : Wa x y) : Wk m tm S (tm.set t y) S := fun G0 S0 w0 G a w _ hz => by
  have htl := (List.getElem?_eq_some_iff.1 ht).1
  refine ⟨G, hz.left, by simp [hz.size], fun t' z u hx hu => ?_, hz.defers, hz.wd0⟩
  by_cases et : t' = t
  · subst et
    simp [htl] at hx; subst hx
    exact h.val _ _ (hz.rep t' x u ht hu)
  · rw [List.getElem?_set_ne (Ne.symm et)] at hx
    exact hz.rep t' z u hx hu
theorem FinK.wa {S' : List AObj} {r : AV} (t : Nat) {x y : AV} (ht : tm[t]? = some x) (h : Wa x y) (k : FinK P m fn (tm.set t y) S r S') : FinK P m fn tm S r S' := FinK.wk (Wk.wa t ht h) k
theorem Wk.wao (i : Nat) {xs ys : List AV} (hi : S[i]? = some (.cells xs)) (h : WaL xs ys) : Wk m tm S tm (S.set i (.cells ys)) := fun G0 S0 w0 G a w _ hz => by
  refine ⟨G, hz.left.trans (Left.reobj hz.left.wd hi h.1.symm fun k y v hy hx => ?_), hz.size, hz.rep, hz.defers, hz.wd0⟩
  have hk : k < xs.length := by rw [h.1]; exact (List.getElem?_eq_some_iff.1 hy).1
  have he := List.getElem?_eq_getElem hk
  exact (h.2 k _ y he hy).val _ _ (hx _ he)
theorem FinK.wao {S' : List AObj} {r : AV} (i : Nat) {xs ys : List AV} (hi : S[i]? = some (.cells xs)) (h : WaL xs ys) (k : FinK P m fn tm (S.set i (.cells ys)) r S') : FinK P m fn tm S r S' := FinK.wk (Wk.wao i hi h) k
end
end Go.Proofs.YtnfagphepkeedaaGreat
end
section
namespace Go.Proofs.YtnfagphepkeedaaGreat
open Go.RowKit

theorem ref23_One0 (x y : Lk) (hn : x.bk.length ≤ 1000000) : Does Tryz.prog 197 [lkA x, lkA y] [] (bA (decide (x = y))) [] := by
  refine Does.runA Tryz.func197 b197 n197 Tryz.ntmps197 ?_; simp only [c197, go_sem, Nat.reduceAdd, Nat.reduceMul, Int.reduceToNat, Nat.reduceLeDiff, Int.reduceLE, Int.reduceLT, ↓reduceIte, Int.reduceBEq, Int.reduceBNe, Int.reduceAdd, Int.reduceSub, Int.reduceMul]; try refine okTr_and rfl ?_
  by_cases c0 : x.st = y.st
  · have q0 : (x.st == y.st) = true := by simpa using c0
    have e : sameB x.bk y.bk = decide (x = y) := by
      unfold sameB
      rw [Bool.eq_iff_iff, decide_eq_true_eq, decide_eq_true_eq]
      cases x; cases y; simp only at c0; simp [c0]
    (simp only [go_sem, Nat.reduceAdd, Nat.reduceMul, Int.reduceToNat, Nat.reduceLeDiff, Int.reduceLE, Int.reduceLT, ↓reduceIte, Int.reduceBEq, Int.reduceBNe, Int.reduceAdd, Int.reduceSub, Int.reduceMul, q0]; try refine okTr_and rfl ?_)
    refine CallK.p (ref05_Same x.bk y.bk (by omega)) ?_; (simp only [go_sem, Nat.reduceAdd, Nat.reduceMul, Int.reduceToNat, Nat.reduceLeDiff, Int.reduceLE, Int.reduceLT, ↓reduceIte, Int.reduceBEq, Int.reduceBNe, Int.reduceAdd, Int.reduceSub, Int.reduceMul]; try refine okTr_and rfl ?_)
    ((refine FinK.finB r197 [] ?_ ?_); (· first | with_reducible rfl | (simp [e]; done) | rfl); (· simp [resAL, resA1, loadA, oneOr, e]))
  · have q0 : (x.st == y.st) = false := by simpa using c0
    have e : decide (x = y) = false := by simp only [decide_eq_false_iff_not]; rintro rfl; exact c0 rfl
    (simp only [go_sem, Nat.reduceAdd, Nat.reduceMul, Int.reduceToNat, Nat.reduceLeDiff, Int.reduceLE, Int.reduceLT, ↓reduceIte, Int.reduceBEq, Int.reduceBNe, Int.reduceAdd, Int.reduceSub, Int.reduceMul, q0]; try refine okTr_and rfl ?_)
    ((refine FinK.finB r197 [] ?_ ?_); (· first | with_reducible rfl | (simp [e]; done) | rfl); (· simp [resAL, resA1, loadA, oneOr, e]))
theorem ref23_One (x y : Lk) (hn : x.bk.length ≤ 1000000) : Ct Tryz.prog 197 [lkA x, lkA y] [] (fun _ => bA (decide (x = y))) [] (fun _ => []) := (ref23_One0 x y hn).toCt cl cl
def sameL (l m : List Lk) : Bool := decide (l = m)
set_option maxRecDepth 100000 in
theorem ref23_Same0 (l m : List Lk) (hm : Smalls l) : Does Tryz.prog 192 [slL l, slL m] [] (bA (sameL l m)) [] := by
  obtain ⟨hn, hb⟩ := hm
  refine Does.runA Tryz.func192 b192 n192 Tryz.ntmps192 ?_; simp only [c192, go_sem, Nat.reduceAdd, Nat.reduceMul, Int.reduceToNat, Nat.reduceLeDiff, Int.reduceLE, Int.reduceLT, ↓reduceIte, Int.reduceBEq, Int.reduceBNe, Int.reduceAdd, Int.reduceSub, Int.reduceMul, lks_length]; try refine okTr_and rfl ?_
  by_cases hlen : l.length = m.length
  · have q0 : ((l.length : Int) != (m.length : Int)) = false := by simp; omega
    (simp only [go_sem, Nat.reduceAdd, Nat.reduceMul, Int.reduceToNat, Nat.reduceLeDiff, Int.reduceLE, Int.reduceLT, ↓reduceIte, Int.reduceBEq, Int.reduceBNe, Int.reduceAdd, Int.reduceSub, Int.reduceMul, q0]; try refine okTr_and rfl ?_)
    refine loop_of (α := Nat) (fun k => [slL l, slL m, .any, .any, .any, iA k, .any, .any, .any, .any, .any, .any, .any, .any, .any, .any, .any, .any, .any, .any, .any, .any, .any, .any, .any, .any, .any]) (fun _ => []) (fun k => k ≤ l.length ∧ ∀ i, i < k → l.getD i lk0 = m.getD i lk0) (fun k => l.length - k) 0 ⟨by simp, fun i hi => by omega⟩ (Wk.to (by simp) (by simp [leT])) ?_
    rintro k ⟨hk, hall⟩
    (simp only [go_sem, Nat.reduceAdd, Nat.reduceMul, Int.reduceToNat, Nat.reduceLeDiff, Int.reduceLE, Int.reduceLT, ↓reduceIte, Int.reduceBEq, Int.reduceBNe, Int.reduceAdd, Int.reduceSub, Int.reduceMul, lks_length]; try refine okTr_and rfl ?_)
    by_cases hlt : k < l.length
    · have q1 : decide ((k : Int) < (l.length : Int)) = true := by simp; omega
      have ek := i64_succ k (by omega)
      have g := lks_get l k hlt
      have g2 := lks_get m k (by omega)
      have hbk := hb _ (lk_mem l k hlt)
      (simp only [go_sem, Nat.reduceAdd, Nat.reduceMul, Int.reduceToNat, Nat.reduceLeDiff, Int.reduceLE, Int.reduceLT, ↓reduceIte, Int.reduceBEq, Int.reduceBNe, Int.reduceAdd, Int.reduceSub, Int.reduceMul, q1, g, g2, lks_length, Int.toNat_natCast]; try refine okTr_and rfl ?_)
      (repeat ((with_reducible refine And.intro ?_ ?_); (· exact sd)))
      refine CallK.p (ref23_One (l.getD k lk0) (m.getD k lk0) hbk) ?_
      by_cases he : l.getD k lk0 = m.getD k lk0
      · have q2 : decide (l.getD k lk0 = m.getD k lk0) = true := by simpa using he
        (simp only [go_sem, Nat.reduceAdd, Nat.reduceMul, Int.reduceToNat, Nat.reduceLeDiff, Int.reduceLE, Int.reduceLT, ↓reduceIte, Int.reduceBEq, Int.reduceBNe, Int.reduceAdd, Int.reduceSub, Int.reduceMul, q2, ek]; try refine okTr_and rfl ?_)
        (repeat ((with_reducible refine And.intro ?_ ?_); (· exact sd)))
        exact ⟨k + 1, ⟨hlt, fun i hi => by
          rcases Nat.lt_or_ge i k with h | h
          · exact hall i h
          · obtain rfl : i = k := by omega
            exact he⟩, by omega, Wk.to (by simp) (by simp [leT])⟩
      · have q2 : decide (l.getD k lk0 = m.getD k lk0) = false := by simpa using he
        have e : sameL l m = false := by unfold sameL; simp only [decide_eq_false_iff_not]; rintro rfl; exact he rfl
        (simp only [go_sem, Nat.reduceAdd, Nat.reduceMul, Int.reduceToNat, Nat.reduceLeDiff, Int.reduceLE, Int.reduceLT, ↓reduceIte, Int.reduceBEq, Int.reduceBNe, Int.reduceAdd, Int.reduceSub, Int.reduceMul, q2]; try refine okTr_and rfl ?_)
        (repeat ((with_reducible refine And.intro ?_ ?_); (· exact sd)))
        ((refine FinK.finB r192 [] ?_ ?_); (· first | with_reducible rfl | (simp [e]; done) | rfl); (· simp [resAL, resA1, loadA, oneOr, e]))
    · have q1 : decide ((k : Int) < (l.length : Int)) = false := by simp; omega
      have e : sameL l m = true := by
        unfold sameL
        simp only [decide_eq_true_eq]
        refine List.ext_getElem hlen fun i h1 h2 => ?_
        have := hall i (by omega)
        simpa [h1, h2] using this
      (simp only [go_sem, Nat.reduceAdd, Nat.reduceMul, Int.reduceToNat, Nat.reduceLeDiff, Int.reduceLE, Int.reduceLT, ↓reduceIte, Int.reduceBEq, Int.reduceBNe, Int.reduceAdd, Int.reduceSub, Int.reduceMul, q1]; try refine okTr_and rfl ?_)
      ((refine FinK.finB r192 [] ?_ ?_); (· first | with_reducible rfl | (simp [e]; done) | rfl); (· simp [resAL, resA1, loadA, oneOr, e]))
  · have q0 : ((l.length : Int) != (m.length : Int)) = true := by simp; omega
    have e : sameL l m = false := by unfold sameL; simp only [decide_eq_false_iff_not]; rintro rfl; exact hlen rfl
    (simp only [go_sem, Nat.reduceAdd, Nat.reduceMul, Int.reduceToNat, Nat.reduceLeDiff, Int.reduceLE, Int.reduceLT, ↓reduceIte, Int.reduceBEq, Int.reduceBNe, Int.reduceAdd, Int.reduceSub, Int.reduceMul, q0]; try refine okTr_and rfl ?_)
    ((refine FinK.finB r192 [] ?_ ?_); (· first | with_reducible rfl | (simp [e]; done) | rfl); (· simp [resAL, resA1, loadA, oneOr, e]))
theorem ref23_Same (l m : List Lk) (hm : Smalls l) : Ct Tryz.prog 192 [slL l, slL m] [] (fun _ => bA (sameL l m)) [] (fun _ => []) := (ref23_Same0 l m hm).toCt cl cl
end Go.Proofs.YtnfagphepkeedaaGreat
end
section
namespace Go.Proofs.YtnfagphepkeedaaGreat
open Go.RowKit

theorem Tryz.own : ownKnob Tryz.prog.godebug = none := by kernel_rfl
theorem Tryz.laidOut : laidOutB Tryz.prog = true := by kernel_rfl

end Go.Proofs.YtnfagphepkeedaaGreat
end
section
namespace Go.Proofs.YtnfagphepkeedaaGreat
open Go.RowKit Go.ChangeShapes Go.WideShapes Go.ChangeAt

/-- All cells of a world lie still. -/
def G0 (W : World) : Gh := ⟨fun b i => W.cell? ⟨b, i, none⟩, fun _ => none, fun _ _ => none⟩
theorem wd0 (W : World) : Wd (G0 W) [] W :=
  ⟨fun b i v h => h, fun i _ => ⟨rfl, fun _ => rfl⟩, fun i xs h => by simp at h, fun j k n h => by simp at h, fun i j b h => by simp [blk] at h⟩
theorem Does.top {P : Program} {f : FuncId} {args : List AV} (h : Does P f args [] (.lit (.bool true)) []) {W : World} {vs : Array Value} (hr : RepL (G0 W) args vs.toList) :
    Calls P f vs W fun r W' => r = .returned (.bool true) ∧ Below W.heap.size W W' := by
  refine (h.2 (G0 W) W vs (wd0 W) hr).mono fun r W' ⟨v, G', e, hv, hl⟩ => ?_
  cases hv
  exact ⟨e, hl.kept.below (fun i _ j => by simp [blk]) (Nat.le_refl _)⟩
theorem RdI.rep {k : IntKind} {W : World} {F : Nat → Prop} {v : Value} {l : List Int} (h : RdI k W F v l) : Rep (G0 W) (.sl .none 1 (ints k l)) v := by
  obtain ⟨A, c, rfl, hc, _, hA⟩ := h
  have hlen := ints_length k l
  obtain ⟨b, o, hb, hcell⟩ : ∃ b o, (0 < l.length → A = some ⟨b, o, none⟩) ∧ ∀ i, i < l.length → W.cell? ⟨b, o + i, none⟩ = some (.int k (l.getD i 0)) := by
    rcases Nat.eq_zero_or_pos l.length with h0 | h0
    · exact ⟨0, 0, fun h => by omega, fun i hi => by omega⟩
    · obtain ⟨b, o, h1, _, h2⟩ := hA h0
      exact ⟨b, o, fun _ => h1, h2⟩
  rw [← hlen]
  refine .sl (b := b) (o := o) (fun i _ => .int k (l.getD i 0)) (by rw [hlen]; exact hc) (fun h => hb (by rw [hlen] at h; exact h)) (fun i x hx => ?_) (fun i j hi hj => ?_) (fun _ _ _ _ => rfl) (fun i j x y hx hy => ?_) trivial
  · simp only [ints, List.getElem?_map, Option.map_eq_some_iff] at hx
    obtain ⟨z, _, rfl⟩ := hx; rfl
  · obtain rfl : j = 0 := by omega
    rw [hlen] at hi
    simpa [G0] using hcell i hi
  · simp only [ints, List.getElem?_map, Option.map_eq_some_iff] at hx
    obtain ⟨z, hz, rfl⟩ := hx
    simp only [AV.cells] at hy
    cases j with
    | zero =>
      simp at hy; subst hy
      have : l.getD i 0 = z := by simp [hz]
      rw [this]; exact .lit _
    | succ j => simp at hy
end Go.Proofs.YtnfagphepkeedaaGreat
end
section
namespace Go.Proofs.YtnfagphepkeedaaGreat
open Go.RowKit

end Go.Proofs.YtnfagphepkeedaaGreat
end
section
namespace Go.Proofs.YtnfagphepkeedaaGreat
open Go.RowKit

/-- An entry. -/
abbrev enA (e : En) : AV := .agg [slL e.lk, slA .u8 e.data]
def smallE (e : En) : Prop := Smalls e.lk ∧ e.data.length ≤ 100000000
def sameE (a b : En) : Bool := sameL a.lk b.lk && sameB a.data b.data
theorem ref24_Same0 (a b : En) (hm : Smalls a.lk) (ha : Bys a.data) (hb : Bys b.data) : Does Tryz.prog 180 [enA a, enA b] [] (bA (sameE a b)) [] := by
  refine Does.runA Tryz.func180 b180 n180 Tryz.ntmps180 ?_; simp only [c180, go_sem, Nat.reduceAdd, Nat.reduceMul, Int.reduceToNat, Nat.reduceLeDiff, Int.reduceLE, Int.reduceLT, ↓reduceIte, Int.reduceBEq, Int.reduceBNe, Int.reduceAdd, Int.reduceSub, Int.reduceMul]; try refine okTr_and rfl ?_
  refine CallK.p (ref23_Same a.lk b.lk hm) ?_
  by_cases h : sameL a.lk b.lk = true
  · have e : sameE a b = sameB a.data b.data := by unfold sameE; rw [h]; rfl
    (simp only [go_sem, Nat.reduceAdd, Nat.reduceMul, Int.reduceToNat, Nat.reduceLeDiff, Int.reduceLE, Int.reduceLT, ↓reduceIte, Int.reduceBEq, Int.reduceBNe, Int.reduceAdd, Int.reduceSub, Int.reduceMul, h]; try refine okTr_and rfl ?_)
    refine CallK.p (ref02_Same a.data b.data ha hb) ?_; (simp only [go_sem, Nat.reduceAdd, Nat.reduceMul, Int.reduceToNat, Nat.reduceLeDiff, Int.reduceLE, Int.reduceLT, ↓reduceIte, Int.reduceBEq, Int.reduceBNe, Int.reduceAdd, Int.reduceSub, Int.reduceMul]; try refine okTr_and rfl ?_)
    ((refine FinK.finB r180 [] ?_ ?_); (· first | with_reducible rfl | (simp [e]; done) | rfl); (· simp [resAL, resA1, loadA, oneOr, e]))
  · have h' : sameL a.lk b.lk = false := by simpa using h
    have e : sameE a b = false := by unfold sameE; rw [h']; rfl
    (simp only [go_sem, Nat.reduceAdd, Nat.reduceMul, Int.reduceToNat, Nat.reduceLeDiff, Int.reduceLE, Int.reduceLT, ↓reduceIte, Int.reduceBEq, Int.reduceBNe, Int.reduceAdd, Int.reduceSub, Int.reduceMul, h']; try refine okTr_and rfl ?_)
    ((refine FinK.finB r180 [] ?_ ?_); (· first | with_reducible rfl | (simp [e]; done) | rfl); (· simp [resAL, resA1, loadA, oneOr, e]))
theorem ref24_Same (a b : En) (hm : Smalls a.lk) (ha : Bys a.data) (hb : Bys b.data) : Ct Tryz.prog 180 [enA a, enA b] [] (fun _ => bA (sameE a b)) [] (fun _ => []) := (ref24_Same0 a b hm ha hb).toCt cl cl
end Go.Proofs.YtnfagphepkeedaaGreat
end
section
namespace Go.Proofs.YtnfagphepkeedaaGreat
open Go.RowKit

def ens (l : List En) : List AV := l.map enA
abbrev slE (l : List En) : AV := .sl .none 2 (ens l)
theorem ens_length (l : List En) : (ens l).length = l.length := by simp [ens]
theorem ens_get (l : List En) (k : Nat) (h : k < l.length) : (ens l).getD k .any = enA (l.getD k en0) := by simp [ens, h]
@[simp] theorem ren_ens (ρ : Nat → Nat) (l : List En) : (ens l).map (fun x => x.ren ρ) = ens l := by
  simp [ens, Function.comp_def, ixs_z, ren_ints, ren_lks]
def allE (a b : List En) : Bool := decide (a.length = b.length) && (List.range a.length).all fun i => sameE (a.getD i en0) (b.getD i en0)
theorem ref24_All0 (a b : List En) (hl : a.length ≤ 1000000) (hm : ∀ e ∈ a, Smalls e.lk) (ha : Ens a) (hb : Ens b) : Does Tryz.prog 165 [slE a, slE b] [] (bA (allE a b)) [] := by
  by_cases hab : a.length = b.length
  · have q : ((a.length : Int) != (b.length : Int)) = false := by rw [hab]; simp
    refine Does.runA Tryz.func165 b165 n165 Tryz.ntmps165 ?_; simp only [c165, go_sem, Nat.reduceAdd, Nat.reduceMul, Int.reduceToNat, Nat.reduceLeDiff, Int.reduceLE, Int.reduceLT, ↓reduceIte, Int.reduceBEq, Int.reduceBNe, Int.reduceAdd, Int.reduceSub, Int.reduceMul, ens_length]; try refine okTr_and rfl ?_
    (simp only [go_sem, Nat.reduceAdd, Nat.reduceMul, Int.reduceToNat, Nat.reduceLeDiff, Int.reduceLE, Int.reduceLT, ↓reduceIte, Int.reduceBEq, Int.reduceBNe, Int.reduceAdd, Int.reduceSub, Int.reduceMul, q]; try refine okTr_and rfl ?_)
    refine loop_of (α := Nat) (fun k => [slE a, slE b, .any, .any, .any, iA k, .any, .any, .any, .any, .any, .any, .any, .any, .any, .any, .any, .any, .any, .any, .any, .any, .any, .any, .any, .any, .any]) (fun _ => []) (fun k => k ≤ a.length ∧ ∀ i, i < k → sameE (a.getD i en0) (b.getD i en0) = true) (fun k => a.length - k) 0 ⟨by simp, fun i hi => by omega⟩ (Wk.to (by simp) (by simp [leT])) ?_
    rintro k ⟨hk, hall⟩
    (simp only [go_sem, Nat.reduceAdd, Nat.reduceMul, Int.reduceToNat, Nat.reduceLeDiff, Int.reduceLE, Int.reduceLT, ↓reduceIte, Int.reduceBEq, Int.reduceBNe, Int.reduceAdd, Int.reduceSub, Int.reduceMul, ens_length]; try refine okTr_and rfl ?_)
    by_cases hlt : k < a.length
    · have q1 : decide ((k : Int) < (a.length : Int)) = true := decide_eq_true (by omega)
      have ek := i64_succ k (by omega)
      have g := ens_get a k hlt
      have g2 := ens_get b k (by omega)
      have ma : a.getD k en0 ∈ a := by simp [hlt]
      have mb : b.getD k en0 ∈ b := by rw [hab] at hlt; simp [hlt]
      (simp only [go_sem, Nat.reduceAdd, Nat.reduceMul, Int.reduceToNat, Nat.reduceLeDiff, Int.reduceLE, Int.reduceLT, ↓reduceIte, Int.reduceBEq, Int.reduceBNe, Int.reduceAdd, Int.reduceSub, Int.reduceMul, q1, g, g2, ens_length, Int.toNat_natCast]; try refine okTr_and rfl ?_)
      (repeat ((with_reducible refine And.intro ?_ ?_); (· exact sd)))
      refine CallK.p (ref24_Same (a.getD k en0) (b.getD k en0) (hm _ ma) (ha _ ma).data (hb _ mb).data) ?_
      cases hs : sameE (a.getD k en0) (b.getD k en0) with
      | true =>
        (simp only [go_sem, Nat.reduceAdd, Nat.reduceMul, Int.reduceToNat, Nat.reduceLeDiff, Int.reduceLE, Int.reduceLT, ↓reduceIte, Int.reduceBEq, Int.reduceBNe, Int.reduceAdd, Int.reduceSub, Int.reduceMul, hs, ek]; try refine okTr_and rfl ?_)
        exact ⟨k + 1, ⟨hlt, fun i hi => by
          rcases Nat.lt_or_ge i k with h | h
          · exact hall i h
          · obtain rfl : i = k := by omega
            exact hs⟩, by omega, Wk.to (by simp) (by simp [leT])⟩
      | false =>
        have e : allE a b = false := by
          cases hz : allE a b with
          | false => rfl
          | true =>
            unfold allE at hz
            rw [Bool.and_eq_true, List.all_eq_true] at hz
            have := hz.2 k (List.mem_range.2 hlt)
            rw [hs] at this; cases this
        (simp only [go_sem, Nat.reduceAdd, Nat.reduceMul, Int.reduceToNat, Nat.reduceLeDiff, Int.reduceLE, Int.reduceLT, ↓reduceIte, Int.reduceBEq, Int.reduceBNe, Int.reduceAdd, Int.reduceSub, Int.reduceMul, hs]; try refine okTr_and rfl ?_)
        ((refine FinK.finB r165 [] ?_ ?_); (· first | with_reducible rfl | (simp [e]; done) | rfl); (· simp [resAL, resA1, loadA, oneOr, e]))
    · have q1 : decide ((k : Int) < (a.length : Int)) = false := decide_eq_false (by omega)
      have e : allE a b = true := by
        unfold allE
        rw [decide_eq_true hab, Bool.true_and, List.all_eq_true]
        intro i hi
        have := List.mem_range.1 hi
        exact hall i (by omega)
      (simp only [go_sem, Nat.reduceAdd, Nat.reduceMul, Int.reduceToNat, Nat.reduceLeDiff, Int.reduceLE, Int.reduceLT, ↓reduceIte, Int.reduceBEq, Int.reduceBNe, Int.reduceAdd, Int.reduceSub, Int.reduceMul, q1]; try refine okTr_and rfl ?_)
      ((refine FinK.finB r165 [] ?_ ?_); (· first | with_reducible rfl | (simp [e]; done) | rfl); (· simp [resAL, resA1, loadA, oneOr, e]))
  · have q : ((a.length : Int) != (b.length : Int)) = true := by simp; omega
    have e : allE a b = false := by unfold allE; rw [decide_eq_false hab]; rfl
    refine Does.runA Tryz.func165 b165 n165 Tryz.ntmps165 ?_; simp only [c165, go_sem, Nat.reduceAdd, Nat.reduceMul, Int.reduceToNat, Nat.reduceLeDiff, Int.reduceLE, Int.reduceLT, ↓reduceIte, Int.reduceBEq, Int.reduceBNe, Int.reduceAdd, Int.reduceSub, Int.reduceMul, ens_length]; try refine okTr_and rfl ?_
    (simp only [go_sem, Nat.reduceAdd, Nat.reduceMul, Int.reduceToNat, Nat.reduceLeDiff, Int.reduceLE, Int.reduceLT, ↓reduceIte, Int.reduceBEq, Int.reduceBNe, Int.reduceAdd, Int.reduceSub, Int.reduceMul, q]; try refine okTr_and rfl ?_)
    ((refine FinK.finB r165 [] ?_ ?_); (· first | with_reducible rfl | (simp [e]; done) | rfl); (· simp [resAL, resA1, loadA, oneOr, e]))
theorem ref24_All (a b : List En) (hl : a.length ≤ 1000000) (hm : ∀ e ∈ a, Smalls e.lk) (ha : Ens a) (hb : Ens b) : Ct Tryz.prog 165 [slE a, slE b] [] (fun _ => bA (allE a b)) [] (fun _ => []) := (ref24_All0 a b hl hm ha hb).toCt cl cl
end Go.Proofs.YtnfagphepkeedaaGreat
end
section
namespace Go.Proofs.YtnfagphepkeedaaGreat
open Go.RowKit

end Go.Proofs.YtnfagphepkeedaaGreat
end
section
section
namespace Go.Proofs.YtnfagphepkeedaaGreat
open Go.RowKit

theorem epoch_Right0 (e : Int) : Does Tryz.prog 72 [uA e] [] (bA (epRight e)) [] := by
  refine Does.runA Tryz.func72 b72 n72 Tryz.ntmps72 ?_; simp only [c72, go_sem, Nat.reduceAdd, Nat.reduceMul, Int.reduceToNat, Nat.reduceLeDiff, Int.reduceLE, Int.reduceLT, ↓reduceIte, Int.reduceBEq, Int.reduceBNe, Int.reduceAdd, Int.reduceSub, Int.reduceMul]; try refine okTr_and rfl ?_
  by_cases h1 : 1 ≤ e
  · have q : decide (1 ≤ e) = true := by simpa using h1
    (simp only [go_sem, Nat.reduceAdd, Nat.reduceMul, Int.reduceToNat, Nat.reduceLeDiff, Int.reduceLE, Int.reduceLT, ↓reduceIte, Int.reduceBEq, Int.reduceBNe, Int.reduceAdd, Int.reduceSub, Int.reduceMul, q]; try refine okTr_and rfl ?_)
    ((refine FinK.finB r72 [] ?_ ?_); (· first | with_reducible rfl | (simp [epRight, q]; done) | rfl); (· simp [resAL, resA1, loadA, oneOr, epRight, q]))
  · have q : decide (1 ≤ e) = false := by simpa using h1
    (simp only [go_sem, Nat.reduceAdd, Nat.reduceMul, Int.reduceToNat, Nat.reduceLeDiff, Int.reduceLE, Int.reduceLT, ↓reduceIte, Int.reduceBEq, Int.reduceBNe, Int.reduceAdd, Int.reduceSub, Int.reduceMul, q]; try refine okTr_and rfl ?_)
    ((refine FinK.finB r72 [] ?_ ?_); (· first | with_reducible rfl | (simp [epRight, q]; done) | rfl); (· simp [resAL, resA1, loadA, oneOr, epRight, q]))
theorem epoch_Right (e : Int) : Ct Tryz.prog 72 [uA e] [] (fun _ => bA (epRight e)) [] (fun _ => []) := (epoch_Right0 e).toCt clo clo
theorem ref17_Right0 (e : Int) : Does Tryz.prog 76 [uA e] [] (bA (epRight e)) [] := by
  refine Does.runA Tryz.func76 b76 n76 Tryz.ntmps76 ?_; simp only [c76, go_sem, Nat.reduceAdd, Nat.reduceMul, Int.reduceToNat, Nat.reduceLeDiff, Int.reduceLE, Int.reduceLT, ↓reduceIte, Int.reduceBEq, Int.reduceBNe, Int.reduceAdd, Int.reduceSub, Int.reduceMul]; try refine okTr_and rfl ?_
  by_cases h1 : 0 < e
  · have q : decide (0 < e) = true := by simpa using h1
    have q2 : decide (e ≤ 4611686018427387903) = epRight e := by unfold epRight; rw [Bool.eq_iff_iff]; simp; omega
    (simp only [go_sem, Nat.reduceAdd, Nat.reduceMul, Int.reduceToNat, Nat.reduceLeDiff, Int.reduceLE, Int.reduceLT, ↓reduceIte, Int.reduceBEq, Int.reduceBNe, Int.reduceAdd, Int.reduceSub, Int.reduceMul, q, q2]; try refine okTr_and rfl ?_)
    exact FinK.finA r76 []
  · have q : decide (0 < e) = false := by simpa using h1
    have q2 : epRight e = false := by unfold epRight; simp; omega
    (simp only [go_sem, Nat.reduceAdd, Nat.reduceMul, Int.reduceToNat, Nat.reduceLeDiff, Int.reduceLE, Int.reduceLT, ↓reduceIte, Int.reduceBEq, Int.reduceBNe, Int.reduceAdd, Int.reduceSub, Int.reduceMul, q, q2]; try refine okTr_and rfl ?_)
    ((refine FinK.finB r76 [] ?_ ?_); (· first | with_reducible rfl | (simp [q2]; done) | rfl); (· simp [resAL, resA1, loadA, oneOr, q2]))
theorem ref17_Right (e : Int) : Ct Tryz.prog 76 [uA e] [] (fun _ => bA (epRight e)) [] (fun _ => []) := (ref17_Right0 e).toCt clo clo
theorem epoch_Pos0 (e : Int) : Does Tryz.prog 131 [uA e] [] (bA (epPos e)) [] := by
  refine Does.runA Tryz.func131 b131 n131 Tryz.ntmps131 ?_; simp only [c131, go_sem, Nat.reduceAdd, Nat.reduceMul, Int.reduceToNat, Nat.reduceLeDiff, Int.reduceLE, Int.reduceLT, ↓reduceIte, Int.reduceBEq, Int.reduceBNe, Int.reduceAdd, Int.reduceSub, Int.reduceMul]; try refine okTr_and rfl ?_
  ((refine FinK.finB r131 [] ?_ ?_); (· first | with_reducible rfl | (simp [epPos]; done) | rfl); (· simp [resAL, resA1, loadA, oneOr, epPos]))
theorem epoch_Pos (e : Int) : Ct Tryz.prog 131 [uA e] [] (fun _ => bA (epPos e)) [] (fun _ => []) := (epoch_Pos0 e).toCt clo clo
theorem ref17_Pos0 (e : Int) : Does Tryz.prog 132 [uA e] [] (bA (epPos e)) [] := by
  have q : decide (e ≤ 4611686018427387903) = epPos e := by unfold epPos; rw [Bool.eq_iff_iff]; simp; omega
  refine Does.runA Tryz.func132 b132 n132 Tryz.ntmps132 ?_; simp only [c132, go_sem, Nat.reduceAdd, Nat.reduceMul, Int.reduceToNat, Nat.reduceLeDiff, Int.reduceLE, Int.reduceLT, ↓reduceIte, Int.reduceBEq, Int.reduceBNe, Int.reduceAdd, Int.reduceSub, Int.reduceMul, q]; try refine okTr_and rfl ?_
  exact FinK.finA r132 []
theorem ref17_Pos (e : Int) : Ct Tryz.prog 132 [uA e] [] (fun _ => bA (epPos e)) [] (fun _ => []) := (ref17_Pos0 e).toCt clo clo
theorem fail_bad {s : RS} (h : ¬ s.code = 0) (c a : Int) : s.fail c a = s := by unfold RS.fail; rw [if_neg h]
theorem fail_good {s : RS} (h : s.code = 0) (a : Int) : (s.fail 3 a).good = false := by unfold RS.fail RS.good; rw [if_pos h]; simp [flt]
theorem epoch_read0 (f : FuncId) (ok : Int → Bool) (hf : ∀ x, Ct Tryz.prog f [uA x] [] (fun _ => bA (ok x)) [] (fun _ => [])) (s : RS) (hs : ROk s) : Does Tryz.prog 162 [.ref 0 0, .fn f [] []] [rdr s] (uA (s.epo ok).2) [rdr (s.epo ok).1] := by
  refine Does.runA Tryz.func162 b162 n162 Tryz.ntmps162 ?_; simp only [c162, go_sem, Nat.reduceAdd, Nat.reduceMul, Int.reduceToNat, Nat.reduceLeDiff, Int.reduceLE, Int.reduceLT, ↓reduceIte, Int.reduceBEq, Int.reduceBNe, Int.reduceAdd, Int.reduceSub, Int.reduceMul]; try refine okTr_and rfl ?_
  refine CallK.r1 (Reader_At s 0) rfl ?_
  (simp only [go_sem, Nat.reduceAdd, Nat.reduceMul, Int.reduceToNat, Nat.reduceLeDiff, Int.reduceLE, Int.reduceLT, ↓reduceIte, Int.reduceBEq, Int.reduceBNe, Int.reduceAdd, Int.reduceSub, Int.reduceMul]; try refine okTr_and rfl ?_)
  refine CallK.u1 (varint_Read s 0 hs.ok hs.bys) rfl ?_
  (simp only [go_sem, Nat.reduceAdd, Nat.reduceMul, Int.reduceToNat, Nat.reduceLeDiff, Int.reduceLE, Int.reduceLT, ↓reduceIte, Int.reduceBEq, Int.reduceBNe, Int.reduceAdd, Int.reduceSub, Int.reduceMul]; try refine okTr_and rfl ?_)
  refine CallK.p (hf s.vint.2) ?_
  (simp only [go_sem, Nat.reduceAdd, Nat.reduceMul, Int.reduceToNat, Nat.reduceLeDiff, Int.reduceLE, Int.reduceLT, ↓reduceIte, Int.reduceBEq, Int.reduceBNe, Int.reduceAdd, Int.reduceSub, Int.reduceMul]; try refine okTr_and rfl ?_)
  by_cases hc : s.vint.1.code = 0
  · by_cases ho : ok s.vint.2 = true
    · have hg : s.vint.1.good = true := by simp [RS.good, hc]
      (simp only [go_sem, Nat.reduceAdd, Nat.reduceMul, Int.reduceToNat, Nat.reduceLeDiff, Int.reduceLE, Int.reduceLT, ↓reduceIte, Int.reduceBEq, Int.reduceBNe, Int.reduceAdd, Int.reduceSub, Int.reduceMul, ho]; try refine okTr_and rfl ?_)
      refine CallK.r1 (Reader_Good _ 0) rfl ?_
      (simp only [go_sem, Nat.reduceAdd, Nat.reduceMul, Int.reduceToNat, Nat.reduceLeDiff, Int.reduceLE, Int.reduceLT, ↓reduceIte, Int.reduceBEq, Int.reduceBNe, Int.reduceAdd, Int.reduceSub, Int.reduceMul, hg]; try refine okTr_and rfl ?_)
      ((refine FinK.finB r162 [0] ?_ ?_); (· first | with_reducible rfl | (simp [RS.epo, hc, ho]; done) | rfl); (· simp [resAL, resA1, loadA, oneOr, RS.epo, hc, ho]))
    · have hg := fail_good hc s.at_
      have ho' : ok s.vint.2 = false := by simpa using ho
      (simp only [go_sem, Nat.reduceAdd, Nat.reduceMul, Int.reduceToNat, Nat.reduceLeDiff, Int.reduceLE, Int.reduceLT, ↓reduceIte, Int.reduceBEq, Int.reduceBNe, Int.reduceAdd, Int.reduceSub, Int.reduceMul, ho']; try refine okTr_and rfl ?_)
      refine CallK.u1 (Reader_Fail _ 3 _ 0) rfl ?_
      (simp only [go_sem, Nat.reduceAdd, Nat.reduceMul, Int.reduceToNat, Nat.reduceLeDiff, Int.reduceLE, Int.reduceLT, ↓reduceIte, Int.reduceBEq, Int.reduceBNe, Int.reduceAdd, Int.reduceSub, Int.reduceMul]; try refine okTr_and rfl ?_)
      refine CallK.r1 (Reader_Good _ 0) rfl ?_
      (simp only [go_sem, Nat.reduceAdd, Nat.reduceMul, Int.reduceToNat, Nat.reduceLeDiff, Int.reduceLE, Int.reduceLT, ↓reduceIte, Int.reduceBEq, Int.reduceBNe, Int.reduceAdd, Int.reduceSub, Int.reduceMul, hg]; try refine okTr_and rfl ?_)
      ((refine FinK.finB r162 [0] ?_ ?_); (· first | with_reducible rfl | (simp [RS.epo, hc, ho']; done) | rfl); (· simp [resAL, resA1, loadA, oneOr, RS.epo, hc, ho']))
  · have hg : s.vint.1.good = false := by simp [RS.good, hc]
    have hfl := fail_bad hc 3 s.at_
    refine cdK_split (fun h => ?_) (fun h => ?_)
    · (simp only [go_sem, Nat.reduceAdd, Nat.reduceMul, Int.reduceToNat, Nat.reduceLeDiff, Int.reduceLE, Int.reduceLT, ↓reduceIte, Int.reduceBEq, Int.reduceBNe, Int.reduceAdd, Int.reduceSub, Int.reduceMul]; try refine okTr_and rfl ?_)
      refine CallK.u1 (Reader_Fail _ 3 _ 0) rfl ?_
      (simp only [go_sem, Nat.reduceAdd, Nat.reduceMul, Int.reduceToNat, Nat.reduceLeDiff, Int.reduceLE, Int.reduceLT, ↓reduceIte, Int.reduceBEq, Int.reduceBNe, Int.reduceAdd, Int.reduceSub, Int.reduceMul]; try refine okTr_and rfl ?_)
      refine CallK.r1 (Reader_Good _ 0) rfl ?_
      (simp only [go_sem, Nat.reduceAdd, Nat.reduceMul, Int.reduceToNat, Nat.reduceLeDiff, Int.reduceLE, Int.reduceLT, ↓reduceIte, Int.reduceBEq, Int.reduceBNe, Int.reduceAdd, Int.reduceSub, Int.reduceMul, hfl, hg]; try refine okTr_and rfl ?_)
      ((refine FinK.finB r162 [0] ?_ ?_); (· first | with_reducible rfl | (simp [RS.epo, hc, hfl]; done) | rfl); (· simp [resAL, resA1, loadA, oneOr, RS.epo, hc, hfl]))
    · (simp only [go_sem, Nat.reduceAdd, Nat.reduceMul, Int.reduceToNat, Nat.reduceLeDiff, Int.reduceLE, Int.reduceLT, ↓reduceIte, Int.reduceBEq, Int.reduceBNe, Int.reduceAdd, Int.reduceSub, Int.reduceMul]; try refine okTr_and rfl ?_)
      refine CallK.r1 (Reader_Good _ 0) rfl ?_
      (simp only [go_sem, Nat.reduceAdd, Nat.reduceMul, Int.reduceToNat, Nat.reduceLeDiff, Int.reduceLE, Int.reduceLT, ↓reduceIte, Int.reduceBEq, Int.reduceBNe, Int.reduceAdd, Int.reduceSub, Int.reduceMul, hg]; try refine okTr_and rfl ?_)
      ((refine FinK.finB r162 [0] ?_ ?_); (· first | with_reducible rfl | (simp [RS.epo, hc]; done) | rfl); (· simp [resAL, resA1, loadA, oneOr, RS.epo, hc]))
theorem epoch_read (f : FuncId) (ok : Int → Bool) (hf : ∀ x, Ct Tryz.prog f [uA x] [] (fun _ => bA (ok x)) [] (fun _ => [])) (s : RS) (i : Nat) (hs : ROk s) : Ct Tryz.prog 162 [.ref i 0, .fn f [] []] [(i, rdr s)] (fun _ => uA (s.epo ok).2) [(i, rdr (s.epo ok).1)] (fun _ => []) := Ct.u1 (epoch_read0 f ok hf s hs) i clo (fun ρ => rdr_ren ρ s) (fun ρ => rdr_ren ρ _) (rdr_dead s) clo
theorem epoch_Read0 (s : RS) (hs : ROk s) : Does Tryz.prog 119 [.ref 0 0] [rdr s] (uA (s.epo epRight).2) [rdr (s.epo epRight).1] := by
  refine Does.runA Tryz.func119 b119 n119 Tryz.ntmps119 ?_; simp only [c119, go_sem, Nat.reduceAdd, Nat.reduceMul, Int.reduceToNat, Nat.reduceLeDiff, Int.reduceLE, Int.reduceLT, ↓reduceIte, Int.reduceBEq, Int.reduceBNe, Int.reduceAdd, Int.reduceSub, Int.reduceMul]; try refine okTr_and rfl ?_
  refine CallK.u1 (epoch_read _ epRight epoch_Right s 0 hs) rfl ?_
  (simp only [go_sem, Nat.reduceAdd, Nat.reduceMul, Int.reduceToNat, Nat.reduceLeDiff, Int.reduceLE, Int.reduceLT, ↓reduceIte, Int.reduceBEq, Int.reduceBNe, Int.reduceAdd, Int.reduceSub, Int.reduceMul]; try refine okTr_and rfl ?_)
  exact FinK.finA r119 [0]
theorem epoch_Read (s : RS) (i : Nat) (hs : ROk s) : Ct Tryz.prog 119 [.ref i 0] [(i, rdr s)] (fun _ => uA (s.epo epRight).2) [(i, rdr (s.epo epRight).1)] (fun _ => []) := Ct.u1 (epoch_Read0 s hs) i clo (fun ρ => rdr_ren ρ s) (fun ρ => rdr_ren ρ _) (rdr_dead s) clo
theorem epoch_ReadPos0 (s : RS) (hs : ROk s) : Does Tryz.prog 120 [.ref 0 0] [rdr s] (uA (s.epo epPos).2) [rdr (s.epo epPos).1] := by
  refine Does.runA Tryz.func120 b120 n120 Tryz.ntmps120 ?_; simp only [c120, go_sem, Nat.reduceAdd, Nat.reduceMul, Int.reduceToNat, Nat.reduceLeDiff, Int.reduceLE, Int.reduceLT, ↓reduceIte, Int.reduceBEq, Int.reduceBNe, Int.reduceAdd, Int.reduceSub, Int.reduceMul]; try refine okTr_and rfl ?_
  refine CallK.u1 (epoch_read _ epPos epoch_Pos s 0 hs) rfl ?_
  (simp only [go_sem, Nat.reduceAdd, Nat.reduceMul, Int.reduceToNat, Nat.reduceLeDiff, Int.reduceLE, Int.reduceLT, ↓reduceIte, Int.reduceBEq, Int.reduceBNe, Int.reduceAdd, Int.reduceSub, Int.reduceMul]; try refine okTr_and rfl ?_)
  exact FinK.finA r120 [0]
theorem epoch_ReadPos (s : RS) (i : Nat) (hs : ROk s) : Ct Tryz.prog 120 [.ref i 0] [(i, rdr s)] (fun _ => uA (s.epo epPos).2) [(i, rdr (s.epo epPos).1)] (fun _ => []) := Ct.u1 (epoch_ReadPos0 s hs) i clo (fun ρ => rdr_ren ρ s) (fun ρ => rdr_ren ρ _) (rdr_dead s) clo
def epKind (k : Int) : Int → Bool := if k = 1 then epRight else if k = 2 then epPos else epTail
theorem ref17_Read0 (s : RS) (k : Int) (hk : k = 1 ∨ k = 2 ∨ k = 3) (hs : ROk s) : Does Tryz.prog 126 [cv s, iA k] [] (.tup [cv (s.epo (epKind k)).1, uA (s.epo (epKind k)).2]) [] := by
  refine Does.runA Tryz.func126 b126 n126 Tryz.ntmps126 ?_; simp only [c126, go_sem, Nat.reduceAdd, Nat.reduceMul, Int.reduceToNat, Nat.reduceLeDiff, Int.reduceLE, Int.reduceLT, ↓reduceIte, Int.reduceBEq, Int.reduceBNe, Int.reduceAdd, Int.reduceSub, Int.reduceMul]; try refine okTr_and rfl ?_
  refine CallK.p (ref04_Read s hs) ?_
  (simp only [go_sem, Nat.reduceAdd, Nat.reduceMul, Int.reduceToNat, Nat.reduceLeDiff, Int.reduceLE, Int.reduceLT, ↓reduceIte, Int.reduceBEq, Int.reduceBNe, Int.reduceAdd, Int.reduceSub, Int.reduceMul]; try refine okTr_and rfl ?_)
  refine cdK_split (fun h => ?_) (fun h => ?_)
  · have hc : ¬ s.vint.1.code = 0 := by simpa using h
    (simp only [go_sem, Nat.reduceAdd, Nat.reduceMul, Int.reduceToNat, Nat.reduceLeDiff, Int.reduceLE, Int.reduceLT, ↓reduceIte, Int.reduceBEq, Int.reduceBNe, Int.reduceAdd, Int.reduceSub, Int.reduceMul]; try refine okTr_and rfl ?_)
    ((refine FinK.finB r126 [] ?_ ?_); (· first | with_reducible rfl | (simp [RS.epo, hc]; done) | rfl); (· simp [resAL, resA1, loadA, oneOr, RS.epo, hc]))
  · have hc : s.vint.1.code = 0 := by simpa using h
    rcases hk with rfl | rfl | rfl
    · (simp only [go_sem, Nat.reduceAdd, Nat.reduceMul, Int.reduceToNat, Nat.reduceLeDiff, Int.reduceLE, Int.reduceLT, ↓reduceIte, Int.reduceBEq, Int.reduceBNe, Int.reduceAdd, Int.reduceSub, Int.reduceMul]; try refine okTr_and rfl ?_)
      refine CallK.p (ref17_Right _) ?_
      (simp only [go_sem, Nat.reduceAdd, Nat.reduceMul, Int.reduceToNat, Nat.reduceLeDiff, Int.reduceLE, Int.reduceLT, ↓reduceIte, Int.reduceBEq, Int.reduceBNe, Int.reduceAdd, Int.reduceSub, Int.reduceMul]; try refine okTr_and rfl ?_)
      cases q : epRight s.vint.2
      · (simp only [go_sem, Nat.reduceAdd, Nat.reduceMul, Int.reduceToNat, Nat.reduceLeDiff, Int.reduceLE, Int.reduceLT, ↓reduceIte, Int.reduceBEq, Int.reduceBNe, Int.reduceAdd, Int.reduceSub, Int.reduceMul, q]; try refine okTr_and rfl ?_)
        refine CallK.p (ref02_Fail _ _ _) ?_
        (simp only [go_sem, Nat.reduceAdd, Nat.reduceMul, Int.reduceToNat, Nat.reduceLeDiff, Int.reduceLE, Int.reduceLT, ↓reduceIte, Int.reduceBEq, Int.reduceBNe, Int.reduceAdd, Int.reduceSub, Int.reduceMul]; try refine okTr_and rfl ?_)
        ((refine FinK.finB r126 [] ?_ ?_); (· first | with_reducible rfl | (simp [RS.epo, hc, epKind, q]; done) | rfl); (· simp [resAL, resA1, loadA, oneOr, RS.epo, hc, epKind, q]))
      · (simp only [go_sem, Nat.reduceAdd, Nat.reduceMul, Int.reduceToNat, Nat.reduceLeDiff, Int.reduceLE, Int.reduceLT, ↓reduceIte, Int.reduceBEq, Int.reduceBNe, Int.reduceAdd, Int.reduceSub, Int.reduceMul, q]; try refine okTr_and rfl ?_)
        ((refine FinK.finB r126 [] ?_ ?_); (· first | with_reducible rfl | (simp [RS.epo, hc, epKind, q]; done) | rfl); (· simp [resAL, resA1, loadA, oneOr, RS.epo, hc, epKind, q]))
    · (simp only [go_sem, Nat.reduceAdd, Nat.reduceMul, Int.reduceToNat, Nat.reduceLeDiff, Int.reduceLE, Int.reduceLT, ↓reduceIte, Int.reduceBEq, Int.reduceBNe, Int.reduceAdd, Int.reduceSub, Int.reduceMul]; try refine okTr_and rfl ?_)
      refine CallK.p (ref17_Pos _) ?_
      (simp only [go_sem, Nat.reduceAdd, Nat.reduceMul, Int.reduceToNat, Nat.reduceLeDiff, Int.reduceLE, Int.reduceLT, ↓reduceIte, Int.reduceBEq, Int.reduceBNe, Int.reduceAdd, Int.reduceSub, Int.reduceMul]; try refine okTr_and rfl ?_)
      cases q : epPos s.vint.2
      · (simp only [go_sem, Nat.reduceAdd, Nat.reduceMul, Int.reduceToNat, Nat.reduceLeDiff, Int.reduceLE, Int.reduceLT, ↓reduceIte, Int.reduceBEq, Int.reduceBNe, Int.reduceAdd, Int.reduceSub, Int.reduceMul, q]; try refine okTr_and rfl ?_)
        refine CallK.p (ref02_Fail _ _ _) ?_
        (simp only [go_sem, Nat.reduceAdd, Nat.reduceMul, Int.reduceToNat, Nat.reduceLeDiff, Int.reduceLE, Int.reduceLT, ↓reduceIte, Int.reduceBEq, Int.reduceBNe, Int.reduceAdd, Int.reduceSub, Int.reduceMul]; try refine okTr_and rfl ?_)
        ((refine FinK.finB r126 [] ?_ ?_); (· first | with_reducible rfl | (simp [RS.epo, hc, epKind, q]; done) | rfl); (· simp [resAL, resA1, loadA, oneOr, RS.epo, hc, epKind, q]))
      · (simp only [go_sem, Nat.reduceAdd, Nat.reduceMul, Int.reduceToNat, Nat.reduceLeDiff, Int.reduceLE, Int.reduceLT, ↓reduceIte, Int.reduceBEq, Int.reduceBNe, Int.reduceAdd, Int.reduceSub, Int.reduceMul, q]; try refine okTr_and rfl ?_)
        ((refine FinK.finB r126 [] ?_ ?_); (· first | with_reducible rfl | (simp [RS.epo, hc, epKind, q]; done) | rfl); (· simp [resAL, resA1, loadA, oneOr, RS.epo, hc, epKind, q]))
    · have t : decide (4611686018427387904 < s.vint.2) = !epTail s.vint.2 := by unfold epTail; rw [Bool.eq_iff_iff]; simp
      (simp only [go_sem, Nat.reduceAdd, Nat.reduceMul, Int.reduceToNat, Nat.reduceLeDiff, Int.reduceLE, Int.reduceLT, ↓reduceIte, Int.reduceBEq, Int.reduceBNe, Int.reduceAdd, Int.reduceSub, Int.reduceMul, t]; try refine okTr_and rfl ?_)
      cases q : epTail s.vint.2
      · (simp only [go_sem, Nat.reduceAdd, Nat.reduceMul, Int.reduceToNat, Nat.reduceLeDiff, Int.reduceLE, Int.reduceLT, ↓reduceIte, Int.reduceBEq, Int.reduceBNe, Int.reduceAdd, Int.reduceSub, Int.reduceMul, q]; try refine okTr_and rfl ?_)
        refine CallK.p (ref02_Fail _ _ _) ?_
        (simp only [go_sem, Nat.reduceAdd, Nat.reduceMul, Int.reduceToNat, Nat.reduceLeDiff, Int.reduceLE, Int.reduceLT, ↓reduceIte, Int.reduceBEq, Int.reduceBNe, Int.reduceAdd, Int.reduceSub, Int.reduceMul]; try refine okTr_and rfl ?_)
        ((refine FinK.finB r126 [] ?_ ?_); (· first | with_reducible rfl | (simp [RS.epo, hc, epKind, q]; done) | rfl); (· simp [resAL, resA1, loadA, oneOr, RS.epo, hc, epKind, q]))
      · (simp only [go_sem, Nat.reduceAdd, Nat.reduceMul, Int.reduceToNat, Nat.reduceLeDiff, Int.reduceLE, Int.reduceLT, ↓reduceIte, Int.reduceBEq, Int.reduceBNe, Int.reduceAdd, Int.reduceSub, Int.reduceMul, q]; try refine okTr_and rfl ?_)
        ((refine FinK.finB r126 [] ?_ ?_); (· first | with_reducible rfl | (simp [RS.epo, hc, epKind, q]; done) | rfl); (· simp [resAL, resA1, loadA, oneOr, RS.epo, hc, epKind, q]))
theorem ref17_Read (s : RS) (k : Int) (hk : k = 1 ∨ k = 2 ∨ k = 3) (hs : ROk s) : Ct Tryz.prog 126 [cv s, iA k] [] (fun _ => .tup [cv (s.epo (epKind k)).1, uA (s.epo (epKind k)).2]) [] (fun _ => []) := (ref17_Read0 s k hk hs).toCt cl cl
end Go.Proofs.YtnfagphepkeedaaGreat
end
end
section
section
namespace Go.Proofs.YtnfagphepkeedaaGreat

structure Tk where
  lit : List Int
  off : Int
  len : Int
deriving DecidableEq
def Tk.run (t : Tk) : Bool := decide (t.off = 0 ∧ t.len = 0 ∧ 1 ≤ t.lit.length ∧ t.lit.length ≤ 1048576)
def Tk.copy (t : Tk) : Bool := decide (t.lit.length = 0 ∧ 1 ≤ t.off ∧ t.off ≤ 65536 ∧ 4 ≤ t.len ∧ t.len ≤ 1048576)
def Tk.right (t : Tk) : Bool := t.run || t.copy
def Tk.made (t : Tk) : Int := if t.run = true then t.lit.length else if t.copy = true then t.len else 0
/-- What a token in memory is: its bytes are bytes, its numbers fit. -/
structure Tk.ok (t : Tk) : Prop where
  lit : Bys t.lit
  off0 : -9223372036854775808 ≤ t.off
  off1 : t.off < 9223372036854775808
  len0 : -9223372036854775808 ≤ t.len
  len1 : t.len < 9223372036854775808
end Go.Proofs.YtnfagphepkeedaaGreat
end
end
section
namespace Go.Proofs.YtnfagphepkeedaaGreat

section
variable {β : Type} {F : Fmt β}
/-- Things read till nothing is left, or one can't be read. -/
def Fmt.all (F : Fmt β) : Nat → RS → List β → RS × List β
  | 0, s, acc => (s, acc)
  | n + 1, s, acc => if s.code = 0 ∧ 0 < s.left then (if (F.f s acc).1.code = 0 then F.all n (F.f s acc).1 (acc ++ [(F.f s acc).2]) else ((F.f s acc).1, [])) else (s, acc)
theorem left_ge {s : RS} (h : ROk s) : 0 ≤ s.left := by have := h.at1; unfold RS.left; omega
theorem all_done {n : Nat} {s : RS} {acc : List β} (h : ¬ (s.code = 0 ∧ 0 < s.left)) : F.all n s acc = (s, acc) := by
  cases n with
  | zero => rfl
  | succ n => rw [Fmt.all, if_neg h]
theorem all_more (hF : F.Ok) : ∀ (n m : Nat) (s : RS) (acc : List β), ROk s → Wf F.nx [] acc → s.left ≤ n → s.left ≤ m → F.all n s acc = F.all m s acc := by
  intro n
  induction n with
  | zero => intro m s acc h _ h1 h2; rw [all_done (n := m) (by omega)]; rfl
  | succ n ih =>
    intro m s acc h hw h1 h2
    by_cases hc : s.code = 0 ∧ 0 < s.left
    · obtain ⟨k, rfl⟩ : ∃ k, m = k + 1 := ⟨m - 1, by omega⟩
      rw [Fmt.all, Fmt.all, if_pos hc, if_pos hc]
      by_cases hn : (F.f s acc).1.code = 0
      · rw [if_pos hn, if_pos hn]
        obtain ⟨k1, k2⟩ := hF.keep s acc h hw
        obtain ⟨r1, r2, r3, r4⟩ := hF.read s acc h hw hn
        have hl : (F.f s acc).1.left < s.left := by unfold RS.left; rw [k2]; omega
        exact ih k _ _ k1 (wf_snoc.2 ⟨hw, by simpa using r2⟩) (by omega) (by omega)
      · rw [if_neg hn, if_neg hn]
    · rw [all_done hc, all_done hc]
/-- All that is left. -/
def Fmt.rest (F : Fmt β) (s : RS) (acc : List β) : RS × List β := F.all s.left.toNat s acc
theorem rest_step (hF : F.Ok) {s : RS} {acc : List β} (h : ROk s) (hw : Wf F.nx [] acc) (hc : s.code = 0) (hl : 0 < s.left) (hn : (F.f s acc).1.code = 0) : F.rest s acc = F.rest (F.f s acc).1 (acc ++ [(F.f s acc).2]) := by
  obtain ⟨k1, k2⟩ := hF.keep s acc h hw
  obtain ⟨r1, r2, r3, r4⟩ := hF.read s acc h hw hn
  have hl2 : (F.f s acc).1.left < s.left := by unfold RS.left; rw [k2]; omega
  have hge := left_ge k1
  unfold Fmt.rest
  obtain ⟨k, hk⟩ : ∃ k, s.left.toNat = k + 1 := ⟨s.left.toNat - 1, by omega⟩
  rw [hk, Fmt.all, if_pos ⟨hc, hl⟩, if_pos hn]
  exact all_more hF _ _ _ _ k1 (wf_snoc.2 ⟨hw, by simpa using r2⟩) (by omega) (by omega)
/-- What is borne at each round. -/
structure Fmt.Al (F : Fmt β) (s : RS) (a : RS × List β) : Prop where
  ok : ROk a.1
  l : a.1.l = s.l
  adv : (a.2.length : Int) ≤ a.1.at_
  code : a.1.code = 0
  wf : Wf F.nx [] a.2
  res : F.rest a.1 a.2 = F.rest s []
  byt : s.l.take a.1.at_.toNat = s.l.take s.at_.toNat ++ encs F.enc [] a.2
theorem Fmt.Al.start {s : RS} (h : ROk s) (hc : s.code = 0) : F.Al s (s, []) := ⟨h, rfl, by simpa using h.at0, hc, trivial, rfl, by simp [encs]⟩
theorem Fmt.Al.next {s t : RS} {acc : List β} (hF : F.Ok) (h : F.Al s (t, acc)) (hl : 0 < t.left) (hc : (F.f t acc).1.code = 0) : F.Al s ((F.f t acc).1, acc ++ [(F.f t acc).2]) ∧ (F.f t acc).1.left < t.left := by
  obtain ⟨h1, h2, h3, h4, h5, h6, h7⟩ := h
  simp only at h1 h2 h3 h4 h5 h6 h7
  obtain ⟨k1, k2⟩ := hF.keep t acc h1 h5
  obtain ⟨r1, r2, r3, r4⟩ := hF.read t acc h1 h5 hc
  refine ⟨⟨k1, k2.trans h2, by simp; omega, hc, wf_snoc.2 ⟨h5, by simpa using r2⟩, ?_, ?_⟩, by unfold RS.left; rw [k2]; omega⟩
  · rw [← h6]; exact (rest_step hF h1 h5 h4 hl hc).symm
  · rw [h2] at r4
    rw [r4, h7, encs_snoc]
    simp
theorem Fmt.Al.len {s t : RS} {acc : List β} (h : F.Al s (t, acc)) : acc.length ≤ s.l.length := by
  have h1 := h.ok.at1
  have h2 := h.l
  have h3 := h.adv
  simp only at h1 h2 h3
  rw [h2] at h1
  omega
end

end Go.Proofs.YtnfagphepkeedaaGreat
end
section
namespace Go.Proofs.YtnfagphepkeedaaGreat
open Go.RowKit

/-- A token, tokens. -/
abbrev tkA (t : Tk) : AV := .agg [slA .u8 t.lit, iA t.off, iA t.len]
def tks (l : List Tk) : List AV := l.map tkA
@[simp] theorem ren_tks (ρ : Nat → Nat) (l : List Tk) : (tks l).map (fun x => x.ren ρ) = tks l := by simp [tks, ixs_z]
@[simp] theorem ren_ints_t (ρ : Nat → Nat) (k : IntKind) (l : List Int) : (ints k l).map (fun x => x.ren ρ) = ints k l := ren_ints ρ k l
end Go.Proofs.YtnfagphepkeedaaGreat
end
section
namespace Go.Proofs.YtnfagphepkeedaaGreat
open Go.RowKit

end Go.Proofs.YtnfagphepkeedaaGreat
end
section
namespace Go.Proofs.YtnfagphepkeedaaGreat

end Go.Proofs.YtnfagphepkeedaaGreat
end
section
namespace Go.Proofs.YtnfagphepkeedaaGreat
open Go.RowKit

end Go.Proofs.YtnfagphepkeedaaGreat
end
section
namespace Go.Proofs.YtnfagphepkeedaaGreat
open Go.RowKit

end Go.Proofs.YtnfagphepkeedaaGreat
end
section
namespace Go.Proofs.YtnfagphepkeedaaGreat
open Go.RowKit

end Go.Proofs.YtnfagphepkeedaaGreat
end
section
namespace Go.Proofs.YtnfagphepkeedaaGreat
open Go.RowKit

abbrev oA (x : O1) : AV := .agg [uA x.st, uA x.bk, bA x.hb, slA .u8 x.data]
def o1s (l : List O1) : List AV := l.map oA
abbrev slO (l : List O1) : AV := .sl .none 4 (o1s l)
abbrev sg1A (u : Sg1) : AV := .agg [uA u.ep, uA u.base, slO u.en]
abbrev sg1O (u : Sg1) : AObj := .cells [uA u.ep, uA u.base, slO u.en]
theorem o1s_length (l : List O1) : (o1s l).length = l.length := by simp [o1s]
theorem o1s_nil : o1s [] = [] := (rfl)
theorem o1s_get (l : List O1) (k : Nat) (h : k < l.length) : (o1s l).getD k .any = oA (l.getD k o10) := by simp [o1s, h]
theorem o1s_snoc (l : List O1) (x : O1) : o1s l ++ [oA x] = o1s (l ++ [x]) := by simp [o1s]
@[simp] theorem ren_o1s (ρ : Nat → Nat) (l : List O1) : (o1s l).map (fun x => x.ren ρ) = o1s l := by
  simp [o1s, Function.comp_def, ixs_z, ren_ints]
theorem sg1O_ren (u : Sg1) (ρ : Nat → Nat) : (sg1O u).ren ρ = sg1O u := by simp [ixs_z]
structure Small1 (u : Sg1) : Prop where
  b0 : 0 ≤ u.base
  b1 : u.base < 18446744073709551616
  n : u.en.length ≤ 1000000
  s : sumO u.en ≤ 100000000000
theorem legacy_numbered0 (base n : Int) (b0 : 0 ≤ base) (b1 : base < 18446744073709551616) (n0 : 0 ≤ n) (n1 : n ≤ 1000000000) : Does Tryz.prog 73 [uA base, iA n] [] (bA (fitsB base n)) [] := by
  have w0 : IntKind.u64.wrap n = n := IntWalk.u64_in _ (by omega)
  refine Does.runA Tryz.func73 b73 n73 Tryz.ntmps73 ?_; simp only [c73, go_sem, Nat.reduceAdd, Nat.reduceMul, Int.reduceToNat, Nat.reduceLeDiff, Int.reduceLE, Int.reduceLT, ↓reduceIte, Int.reduceBEq, Int.reduceBNe, Int.reduceAdd, Int.reduceSub, Int.reduceMul]; try refine okTr_and rfl ?_
  refine CallK.p (epoch_Pos base) ?_
  by_cases h : base < 4611686018427387904
  · have e : epPos base = true := epPos_iff.2 h
    have w1 : IntKind.u64.wrap (base + n) = base + n := IntWalk.u64_in _ (by omega)
    have ef : decide (base + n ≤ 4611686018427387904) = fitsB base n := by unfold fitsB; rw [decide_eq_true h]; rfl
    (simp only [go_sem, Nat.reduceAdd, Nat.reduceMul, Int.reduceToNat, Nat.reduceLeDiff, Int.reduceLE, Int.reduceLT, ↓reduceIte, Int.reduceBEq, Int.reduceBNe, Int.reduceAdd, Int.reduceSub, Int.reduceMul, e, w0, w1, ef]; try refine okTr_and rfl ?_)
    exact FinK.finA r73 []
  · have e : epPos base = false := by unfold epPos; exact decide_eq_false h
    have ef : fitsB base n = false := by unfold fitsB; rw [decide_eq_false h]; rfl
    (simp only [go_sem, Nat.reduceAdd, Nat.reduceMul, Int.reduceToNat, Nat.reduceLeDiff, Int.reduceLE, Int.reduceLT, ↓reduceIte, Int.reduceBEq, Int.reduceBNe, Int.reduceAdd, Int.reduceSub, Int.reduceMul, e]; try refine okTr_and rfl ?_)
    ((refine FinK.finB r73 [] ?_ ?_); (· first | with_reducible rfl | (simp [ef]; done) | rfl); (· simp [resAL, resA1, loadA, oneOr, ef]))
theorem legacy_numbered (base n : Int) (b0 : 0 ≤ base) (b1 : base < 18446744073709551616) (n0 : 0 ≤ n) (n1 : n ≤ 1000000000) : Ct Tryz.prog 73 [uA base, iA n] [] (fun _ => bA (fitsB base n)) [] (fun _ => []) := (legacy_numbered0 base n b0 b1 n0 n1).toCt cl cl
theorem ref35_fits0 (base n : Int) (b0 : 0 ≤ base) (b1 : base < 18446744073709551616) (n0 : 0 ≤ n) (n1 : n ≤ 1000000000) : Does Tryz.prog 77 [uA base, iA n] [] (bA (fitsB base n)) [] := by
  have w0 : IntKind.u64.wrap n = n := IntWalk.u64_in _ (by omega)
  refine Does.runA Tryz.func77 b77 n77 Tryz.ntmps77 ?_; simp only [c77, go_sem, Nat.reduceAdd, Nat.reduceMul, Int.reduceToNat, Nat.reduceLeDiff, Int.reduceLE, Int.reduceLT, ↓reduceIte, Int.reduceBEq, Int.reduceBNe, Int.reduceAdd, Int.reduceSub, Int.reduceMul]; try refine okTr_and rfl ?_
  refine CallK.p (ref17_Pos base) ?_
  by_cases h : base < 4611686018427387904
  · have e : epPos base = true := epPos_iff.2 h
    have w1 : IntKind.u64.wrap (4611686018427387904 - base) = 4611686018427387904 - base := IntWalk.u64_in _ (by omega)
    have ef : decide (n ≤ 4611686018427387904 - base) = fitsB base n := by
      unfold fitsB; rw [decide_eq_true h, Bool.true_and]
      by_cases h2 : n ≤ 4611686018427387904 - base
      · rw [decide_eq_true h2, decide_eq_true (by omega)]
      · rw [decide_eq_false h2, decide_eq_false (by omega)]
    (simp only [go_sem, Nat.reduceAdd, Nat.reduceMul, Int.reduceToNat, Nat.reduceLeDiff, Int.reduceLE, Int.reduceLT, ↓reduceIte, Int.reduceBEq, Int.reduceBNe, Int.reduceAdd, Int.reduceSub, Int.reduceMul, e, w0, w1, ef]; try refine okTr_and rfl ?_)
    exact FinK.finA r77 []
  · have e : epPos base = false := by unfold epPos; exact decide_eq_false h
    have ef : fitsB base n = false := by unfold fitsB; rw [decide_eq_false h]; rfl
    (simp only [go_sem, Nat.reduceAdd, Nat.reduceMul, Int.reduceToNat, Nat.reduceLeDiff, Int.reduceLE, Int.reduceLT, ↓reduceIte, Int.reduceBEq, Int.reduceBNe, Int.reduceAdd, Int.reduceSub, Int.reduceMul, e]; try refine okTr_and rfl ?_)
    ((refine FinK.finB r77 [] ?_ ?_); (· first | with_reducible rfl | (simp [ef]; done) | rfl); (· simp [resAL, resA1, loadA, oneOr, ef]))
theorem ref35_fits (base n : Int) (b0 : 0 ≤ base) (b1 : base < 18446744073709551616) (n0 : 0 ≤ n) (n1 : n ≤ 1000000000) : Ct Tryz.prog 77 [uA base, iA n] [] (fun _ => bA (fitsB base n)) [] (fun _ => []) := (ref35_fits0 base n b0 b1 n0 n1).toCt cl cl
theorem legacy_total0 (l : List O1) (hn : l.length ≤ 1000000) (hs : sumO l ≤ 100000000000) : Does Tryz.prog 67 [slO l] [] (iA (sumO l)) [] := by
  refine Does.runA Tryz.func67 b67 n67 Tryz.ntmps67 ?_; simp only [c67, go_sem, Nat.reduceAdd, Nat.reduceMul, Int.reduceToNat, Nat.reduceLeDiff, Int.reduceLE, Int.reduceLT, ↓reduceIte, Int.reduceBEq, Int.reduceBNe, Int.reduceAdd, Int.reduceSub, Int.reduceMul, o1s_length]; try refine okTr_and rfl ?_
  refine loop_of (α := Nat) (fun k => [.any, .any, .any, iA (sumO (l.take k)), .any, .any, slO l, iA l.length, iA k, .any, .any, .any, .any, .any, .any, .any, .any, .any, .any]) (fun _ => []) (fun k => k ≤ l.length) (fun k => l.length - k) 0 (by simp) (Wk.to (by simp) (by simp [leT, sumO])) ?_
  intro k hk
  (simp only [go_sem, Nat.reduceAdd, Nat.reduceMul, Int.reduceToNat, Nat.reduceLeDiff, Int.reduceLE, Int.reduceLT, ↓reduceIte, Int.reduceBEq, Int.reduceBNe, Int.reduceAdd, Int.reduceSub, Int.reduceMul]; try refine okTr_and rfl ?_)
  by_cases hlt : k < l.length
  · have q1 : decide ((k : Int) < (l.length : Int)) = true := decide_eq_true (by omega)
    have ek := i64_succ k (by omega)
    have g := o1s_get l k hlt
    have st := sumO_take l k hlt
    have le := sumO_le l (k + 1)
    have ge := sumO_ge (l.take k)
    have w : IntKind.i64.wrap (sumO (l.take k) + ((l.getD k o10).data.length : Int)) = sumO (l.take (k + 1)) := by rw [IntWalk.i64_in _ (by omega)]; omega
    (simp only [go_sem, Nat.reduceAdd, Nat.reduceMul, Int.reduceToNat, Nat.reduceLeDiff, Int.reduceLE, Int.reduceLT, ↓reduceIte, Int.reduceBEq, Int.reduceBNe, Int.reduceAdd, Int.reduceSub, Int.reduceMul, q1, g, o1s_length, Int.toNat_natCast, ints_length, w, ek]; try refine okTr_and rfl ?_)
    (repeat ((with_reducible refine And.intro ?_ ?_); (· exact sd)))
    exact ⟨k + 1, hlt, by omega, Wk.sel [] (by simp) rfl (by simp) rfl (by simp) (by simp [selT, ixs_z])⟩
  · have q1 : decide ((k : Int) < (l.length : Int)) = false := decide_eq_false (by omega)
    have e : l.take k = l := List.take_of_length_le (by omega)
    (simp only [go_sem, Nat.reduceAdd, Nat.reduceMul, Int.reduceToNat, Nat.reduceLeDiff, Int.reduceLE, Int.reduceLT, ↓reduceIte, Int.reduceBEq, Int.reduceBNe, Int.reduceAdd, Int.reduceSub, Int.reduceMul, q1]; try refine okTr_and rfl ?_)
    ((refine FinK.finB r67 [] ?_ ?_); (· first | with_reducible rfl | (simp [e]; done) | rfl); (· simp [resAL, resA1, loadA, oneOr, e]))
theorem legacy_total (l : List O1) (hn : l.length ≤ 1000000) (hs : sumO l ≤ 100000000000) : Ct Tryz.prog 67 [slO l] [] (fun _ => iA (sumO l)) [] (fun _ => []) := (legacy_total0 l hn hs).toCt cl cl
def goodAt (u : Sg1) (k : Nat) (x : O1) : Bool := goodO (IntKind.u64.wrap (u.base + k)) x
theorem legacy_Right110 (u : Sg1) (k : Nat) (x : O1) (hk : k ≤ 1000000) : Does Tryz.prog 75 [iA k, oA x, .ref 0 0] [sg1O u] (bA (goodAt u k x)) [sg1O u] := by
  have w0 : IntKind.u64.wrap (k : Int) = k := IntWalk.u64_in _ (by omega)
  refine Does.runA Tryz.func75 b75 n75 Tryz.ntmps75 ?_; simp only [c75, go_sem, Nat.reduceAdd, Nat.reduceMul, Int.reduceToNat, Nat.reduceLeDiff, Int.reduceLE, Int.reduceLT, ↓reduceIte, Int.reduceBEq, Int.reduceBNe, Int.reduceAdd, Int.reduceSub, Int.reduceMul]; try refine okTr_and rfl ?_
  cases hb : x.hb with
  | true =>
    have e : decide (x.bk < IntKind.u64.wrap (u.base + k)) = goodAt u k x := by unfold goodAt goodO; rw [hb]; rfl
    cases h : decide (x.bk < IntKind.u64.wrap (u.base + k)) with
    | true =>
      rw [h] at e
      (simp only [go_sem, Nat.reduceAdd, Nat.reduceMul, Int.reduceToNat, Nat.reduceLeDiff, Int.reduceLE, Int.reduceLT, ↓reduceIte, Int.reduceBEq, Int.reduceBNe, Int.reduceAdd, Int.reduceSub, Int.reduceMul, hb, w0, h]; try refine okTr_and rfl ?_)
      ((refine FinK.finB r75 [0] ?_ ?_); (· first | with_reducible rfl | (simp [← e]; done) | rfl); (· simp [resAL, resA1, loadA, oneOr, ← e]))
    | false =>
      rw [h] at e
      (simp only [go_sem, Nat.reduceAdd, Nat.reduceMul, Int.reduceToNat, Nat.reduceLeDiff, Int.reduceLE, Int.reduceLT, ↓reduceIte, Int.reduceBEq, Int.reduceBNe, Int.reduceAdd, Int.reduceSub, Int.reduceMul, hb, w0, h]; try refine okTr_and rfl ?_)
      ((refine FinK.finB r75 [0] ?_ ?_); (· first | with_reducible rfl | (simp [← e]; done) | rfl); (· simp [resAL, resA1, loadA, oneOr, ← e]))
  | false =>
    have e : (x.bk == 0) = goodAt u k x := by
      unfold goodAt goodO; rw [hb]
      simp only [Bool.false_eq_true, if_false]
      rw [Bool.eq_iff_iff, beq_iff_eq, decide_eq_true_eq]
    (simp only [go_sem, Nat.reduceAdd, Nat.reduceMul, Int.reduceToNat, Nat.reduceLeDiff, Int.reduceLE, Int.reduceLT, ↓reduceIte, Int.reduceBEq, Int.reduceBNe, Int.reduceAdd, Int.reduceSub, Int.reduceMul, hb, e]; try refine okTr_and rfl ?_)
    exact FinK.finA r75 [0]
theorem legacy_Right11 (u : Sg1) (k : Nat) (x : O1) (hk : k ≤ 1000000) (i : Nat) : Ct Tryz.prog 75 [iA k, oA x, .ref i 0] [(i, sg1O u)] (fun _ => bA (goodAt u k x)) [] (fun _ => []) :=
  Ct.r1 (legacy_Right110 u k x hk) i cl (sg1O_ren u) (by simp) clo
/-- Do all of some things, each by its place, pass? -/
def allO (ok : Nat → O1 → Bool) (l : List O1) : Bool := (List.range l.length).all fun i => ok i (l.getD i o10)
theorem allO_iff {ok : Nat → O1 → Bool} {l : List O1} : allO ok l = true ↔ ∀ i, i < l.length → ok i (l.getD i o10) = true := by
  simp only [allO, List.all_eq_true, List.mem_range]
theorem legacy_allO0 (f : FuncId) (o : AObj) (ok : Nat → O1 → Bool) (ho : ∀ ρ, o.ren ρ = o) (hd : o ≠ .dead) (l : List O1) (hf : ∀ k, k < l.length → ∀ i, Ct Tryz.prog f [iA k, oA (l.getD k o10), .ref i 0] [(i, o)] (fun _ => bA (ok k (l.getD k o10))) [] (fun _ => [])) (hn : l.length ≤ 1000000) :
    Does Tryz.prog 74 [slO l, .fn f [] [.ref 0 0]] [o] (bA (allO ok l)) [o] := by
  refine Does.runA Tryz.func74 b74 n74 Tryz.ntmps74 ?_; simp only [c74, go_sem, Nat.reduceAdd, Nat.reduceMul, Int.reduceToNat, Nat.reduceLeDiff, Int.reduceLE, Int.reduceLT, ↓reduceIte, Int.reduceBEq, Int.reduceBNe, Int.reduceAdd, Int.reduceSub, Int.reduceMul, o1s_length]; try refine okTr_and rfl ?_
  refine loop_of (α := Nat) (fun k => [slO l, .fn f [] [.ref 0 0], .any, .any, .any, .any, .any, slO l, iA l.length, iA k, .any, .any, .any, .any, .any, .any, .any, .any, .any, .any]) (fun _ => [o]) (fun k => k ≤ l.length ∧ ∀ i, i < k → ok i (l.getD i o10) = true) (fun k => l.length - k) 0 ⟨by simp, fun i hi => by omega⟩ (Wk.to (by simp) (by simp [leT])) ?_
  rintro k ⟨hk, hall⟩
  (simp only [go_sem, Nat.reduceAdd, Nat.reduceMul, Int.reduceToNat, Nat.reduceLeDiff, Int.reduceLE, Int.reduceLT, ↓reduceIte, Int.reduceBEq, Int.reduceBNe, Int.reduceAdd, Int.reduceSub, Int.reduceMul]; try refine okTr_and rfl ?_)
  by_cases hlt : k < l.length
  · have q1 : decide ((k : Int) < (l.length : Int)) = true := decide_eq_true (by omega)
    have ek := i64_succ k (by omega)
    have g := o1s_get l k hlt
    have hfx := hf k hlt 0
    (simp only [go_sem, Nat.reduceAdd, Nat.reduceMul, Int.reduceToNat, Nat.reduceLeDiff, Int.reduceLE, Int.reduceLT, ↓reduceIte, Int.reduceBEq, Int.reduceBNe, Int.reduceAdd, Int.reduceSub, Int.reduceMul, q1, g, o1s_length, Int.toNat_natCast]; try refine okTr_and rfl ?_)
    (repeat ((with_reducible refine And.intro ?_ ?_); (· exact sd)))
    refine CallK.r1 (hfx) rfl ?_
    cases hs : ok k (l.getD k o10) with
    | false =>
      have e : allO ok l = false := by
        cases ha : allO ok l with
        | false => rfl
        | true => rw [allO_iff.1 ha k hlt] at hs; cases hs
      (simp only [go_sem, Nat.reduceAdd, Nat.reduceMul, Int.reduceToNat, Nat.reduceLeDiff, Int.reduceLE, Int.reduceLT, ↓reduceIte, Int.reduceBEq, Int.reduceBNe, Int.reduceAdd, Int.reduceSub, Int.reduceMul, hs]; try refine okTr_and rfl ?_)
      ((refine FinK.finB r74 [0] ?_ ?_); (· first | with_reducible rfl | (simp [e, ho]; done) | rfl); (· simp [resAL, resA1, loadA, oneOr, e, ho]))
    | true =>
      (simp only [go_sem, Nat.reduceAdd, Nat.reduceMul, Int.reduceToNat, Nat.reduceLeDiff, Int.reduceLE, Int.reduceLT, ↓reduceIte, Int.reduceBEq, Int.reduceBNe, Int.reduceAdd, Int.reduceSub, Int.reduceMul, hs, ek]; try refine okTr_and rfl ?_)
      exact ⟨k + 1, ⟨hlt, fun i hi => by
        rcases Nat.lt_or_ge i k with h | h
        · exact hall i h
        · obtain rfl : i = k := by omega
          exact hs⟩, by omega, Wk.sel [0] (by simp) rfl (by simp) rfl (by simp [ho]) (by simp [selT, ixs_z])⟩
  · have q1 : decide ((k : Int) < (l.length : Int)) = false := decide_eq_false (by omega)
    have e : allO ok l = true := allO_iff.2 fun i hi => hall i (by omega)
    (simp only [go_sem, Nat.reduceAdd, Nat.reduceMul, Int.reduceToNat, Nat.reduceLeDiff, Int.reduceLE, Int.reduceLT, ↓reduceIte, Int.reduceBEq, Int.reduceBNe, Int.reduceAdd, Int.reduceSub, Int.reduceMul, q1]; try refine okTr_and rfl ?_)
    ((refine FinK.finB r74 [0] ?_ ?_); (· first | with_reducible rfl | (simp [e, ho]; done) | rfl); (· simp [resAL, resA1, loadA, oneOr, e, ho]))
theorem legacy_allO (f : FuncId) (o : AObj) (ok : Nat → O1 → Bool) (ho : ∀ ρ, o.ren ρ = o) (hd : o ≠ .dead) (l : List O1) (hf : ∀ k, k < l.length → ∀ i, Ct Tryz.prog f [iA k, oA (l.getD k o10), .ref i 0] [(i, o)] (fun _ => bA (ok k (l.getD k o10))) [] (fun _ => [])) (hn : l.length ≤ 1000000) (i : Nat) :
    Ct Tryz.prog 74 [slO l, .fn f [] [.ref i 0]] [(i, o)] (fun _ => bA (allO ok l)) [] (fun _ => []) := Ct.r1 (legacy_allO0 f o ok ho hd l hf hn) i cl ho hd clo
theorem right1_no {u : Sg1} (h : epRight u.ep = false ∨ 400 < u.en.length ∨ fitsB u.base u.en.length = false ∨ 1048576 < sumO u.en) : right1 u = false := by
  cases hr : right1 u with
  | false => rfl
  | true =>
    exfalso
    unfold right1 at hr
    simp only [Bool.and_eq_true, decide_eq_true_eq] at hr
    obtain ⟨⟨⟨⟨a, b⟩, c⟩, d⟩, e⟩ := hr
    rcases h with h | h | h | h
    · rw [h] at a; cases a
    · omega
    · rw [h] at c; cases c
    · omega
theorem right1_yes {u : Sg1} (b0 : 0 ≤ u.base) (h1 : epRight u.ep = true) (h2 : u.en.length ≤ 400) (h3 : fitsB u.base u.en.length = true) (h4 : sumO u.en ≤ 1048576) : right1 u = allO (goodAt u) u.en := by
  obtain ⟨f1, f2⟩ := fitsB_iff.1 h3
  have key : ∀ i, i < u.en.length → goodAt u i (u.en.getD i o10) = goodO (u.base + i) (u.en.getD i o10) := fun i hi => by
    unfold goodAt; rw [IntWalk.u64_in _ (by omega)]
  rw [Bool.eq_iff_iff, right1_iff, allO_iff]
  constructor
  · rintro ⟨_, _, _, _, h5⟩ i hi
    rw [key i hi]; exact h5 i hi
  · intro h5
    exact ⟨epRight_iff.1 h1, h2, ⟨f1, f2⟩, h4, fun i hi => by rw [← key i hi]; exact h5 i hi⟩
theorem legacy_Right10 (u : Sg1) (hs : Small1 u) : Does Tryz.prog 16 [sg1A u] [] (bA (right1 u)) [] := by
  obtain ⟨b0, b1, n1, s1⟩ := hs
  refine Does.runA Tryz.func16 b16 n16 Tryz.ntmps16 ?_; simp only [c16, go_sem, Nat.reduceAdd, Nat.reduceMul, Int.reduceToNat, Nat.reduceLeDiff, Int.reduceLE, Int.reduceLT, ↓reduceIte, Int.reduceBEq, Int.reduceBNe, Int.reduceAdd, Int.reduceSub, Int.reduceMul]; try refine okTr_and rfl ?_
  refine CallK.p (epoch_Right u.ep) ?_
  cases h1 : epRight u.ep with
  | false =>
    have e := right1_no (u := u) (.inl h1)
    (simp only [go_sem, Nat.reduceAdd, Nat.reduceMul, Int.reduceToNat, Nat.reduceLeDiff, Int.reduceLE, Int.reduceLT, ↓reduceIte, Int.reduceBEq, Int.reduceBNe, Int.reduceAdd, Int.reduceSub, Int.reduceMul, h1]; try refine okTr_and rfl ?_)
    ((refine FinK.finB r16 [] ?_ ?_); (· first | with_reducible rfl | (simp [e]; done) | rfl); (· simp [resAL, resA1, loadA, oneOr, e]))
  | true =>
    by_cases h2 : u.en.length ≤ 400
    · have q2 : decide (400 < (u.en.length : Int)) = false := decide_eq_false (by omega)
      (simp only [go_sem, Nat.reduceAdd, Nat.reduceMul, Int.reduceToNat, Nat.reduceLeDiff, Int.reduceLE, Int.reduceLT, ↓reduceIte, Int.reduceBEq, Int.reduceBNe, Int.reduceAdd, Int.reduceSub, Int.reduceMul, h1, o1s_length, q2]; try refine okTr_and rfl ?_)
      refine CallK.p (legacy_numbered u.base u.en.length b0 b1 (by omega) (by omega)) ?_
      cases h3 : fitsB u.base u.en.length with
      | false =>
        have e := right1_no (u := u) (.inr (.inr (.inl h3)))
        (simp only [go_sem, Nat.reduceAdd, Nat.reduceMul, Int.reduceToNat, Nat.reduceLeDiff, Int.reduceLE, Int.reduceLT, ↓reduceIte, Int.reduceBEq, Int.reduceBNe, Int.reduceAdd, Int.reduceSub, Int.reduceMul, h3]; try refine okTr_and rfl ?_)
        ((refine FinK.finB r16 [] ?_ ?_); (· first | with_reducible rfl | (simp [e]; done) | rfl); (· simp [resAL, resA1, loadA, oneOr, e]))
      | true =>
        (simp only [go_sem, Nat.reduceAdd, Nat.reduceMul, Int.reduceToNat, Nat.reduceLeDiff, Int.reduceLE, Int.reduceLT, ↓reduceIte, Int.reduceBEq, Int.reduceBNe, Int.reduceAdd, Int.reduceSub, Int.reduceMul, h3]; try refine okTr_and rfl ?_)
        refine CallK.p (legacy_total u.en n1 s1) ?_
        by_cases h4 : sumO u.en ≤ 1048576
        · have q4 : decide (1048576 < sumO u.en) = false := decide_eq_false (by omega)
          have e := right1_yes b0 h1 h2 h3 h4
          (simp only [go_sem, Nat.reduceAdd, Nat.reduceMul, Int.reduceToNat, Nat.reduceLeDiff, Int.reduceLE, Int.reduceLT, ↓reduceIte, Int.reduceBEq, Int.reduceBNe, Int.reduceAdd, Int.reduceSub, Int.reduceMul, q4]; try refine okTr_and rfl ?_)
          refine CallK.r1 (legacy_allO 75 (sg1O u) (goodAt u) (sg1O_ren u) (by simp) u.en (fun k hk i => legacy_Right11 u k _ (by omega) i) n1 _) rfl ?_; (simp only [go_sem, Nat.reduceAdd, Nat.reduceMul, Int.reduceToNat, Nat.reduceLeDiff, Int.reduceLE, Int.reduceLT, ↓reduceIte, Int.reduceBEq, Int.reduceBNe, Int.reduceAdd, Int.reduceSub, Int.reduceMul, ← e]; try refine okTr_and rfl ?_)
          exact FinK.finA r16 []
        · have q4 : decide (1048576 < sumO u.en) = true := decide_eq_true (by omega)
          have e := right1_no (u := u) (.inr (.inr (.inr (by omega))))
          (simp only [go_sem, Nat.reduceAdd, Nat.reduceMul, Int.reduceToNat, Nat.reduceLeDiff, Int.reduceLE, Int.reduceLT, ↓reduceIte, Int.reduceBEq, Int.reduceBNe, Int.reduceAdd, Int.reduceSub, Int.reduceMul, q4]; try refine okTr_and rfl ?_)
          ((refine FinK.finB r16 [] ?_ ?_); (· first | with_reducible rfl | (simp [e]; done) | rfl); (· simp [resAL, resA1, loadA, oneOr, e]))
    · have q2 : decide (400 < (u.en.length : Int)) = true := decide_eq_true (by omega)
      have e := right1_no (u := u) (.inr (.inl (by omega)))
      (simp only [go_sem, Nat.reduceAdd, Nat.reduceMul, Int.reduceToNat, Nat.reduceLeDiff, Int.reduceLE, Int.reduceLT, ↓reduceIte, Int.reduceBEq, Int.reduceBNe, Int.reduceAdd, Int.reduceSub, Int.reduceMul, h1, o1s_length, q2]; try refine okTr_and rfl ?_)
      ((refine FinK.finB r16 [] ?_ ?_); (· first | with_reducible rfl | (simp [e]; done) | rfl); (· simp [resAL, resA1, loadA, oneOr, e]))
theorem legacy_Right1 (u : Sg1) (hs : Small1 u) : Ct Tryz.prog 16 [sg1A u] [] (fun _ => bA (right1 u)) [] (fun _ => []) := (legacy_Right10 u hs).toCt cl cl
end Go.Proofs.YtnfagphepkeedaaGreat
end
section
namespace Go.Proofs.YtnfagphepkeedaaGreat
open Go.RowKit

def same1 (u v : Sg1) : Bool := decide (u = v)
theorem same1_self (u : Sg1) : same1 u u = true := by simp [same1]
set_option maxRecDepth 100000 in
theorem ref35_Same10 (u v : Sg1) (hu : ∀ x ∈ u.en, Bys x.data) (hv : ∀ x ∈ v.en, Bys x.data) (hn : u.en.length ≤ 1000000) : Does Tryz.prog 12 [sg1A u, sg1A v] [] (bA (same1 u v)) [] := by
  have hno : ¬ u = v → same1 u v = false := fun h => by simp [same1, h]
  refine Does.runA Tryz.func12 b12 n12 Tryz.ntmps12 ?_; simp only [c12, go_sem, Nat.reduceAdd, Nat.reduceMul, Int.reduceToNat, Nat.reduceLeDiff, Int.reduceLE, Int.reduceLT, ↓reduceIte, Int.reduceBEq, Int.reduceBNe, Int.reduceAdd, Int.reduceSub, Int.reduceMul]; try refine okTr_and rfl ?_
  by_cases c0 : u.ep = v.ep
  · have q0 : (u.ep != v.ep) = false := by simpa using c0
    by_cases c1 : u.base = v.base
    · have q1 : (u.base != v.base) = false := by simpa using c1
      by_cases hlen : u.en.length = v.en.length
      · have q2 : ((u.en.length : Int) != (v.en.length : Int)) = false := by simp; omega
        (simp only [go_sem, Nat.reduceAdd, Nat.reduceMul, Int.reduceToNat, Nat.reduceLeDiff, Int.reduceLE, Int.reduceLT, ↓reduceIte, Int.reduceBEq, Int.reduceBNe, Int.reduceAdd, Int.reduceSub, Int.reduceMul, q0, q1, o1s_length, q2]; try refine okTr_and rfl ?_)
        refine loop_of (α := Nat) (fun k => [.any, .any, .ref 0 0, .ref 1 0, .any, iA k, .any, .any, .any, .any, .any, .any, .any, .any, .any, .any, .any, .any, .any, .any, .any, .any, .any, .any, .any, .any, .any, .any, .any, .any, .any, .any, .any, .any, .any, .any, .any, .any, .any, .any, .any, .any, .any, .any, .any, .any, .any, .any, .any, .any, .any, .any, .any, .any, .any, .any, .any, .any, .any, .any, .any, .any, .any, .any, .any, .any, .any, .any, .any, .any, .any, .any, .any]) (fun _ => [sg1O u, sg1O v]) (fun k => k ≤ u.en.length ∧ ∀ i, i < k → u.en.getD i o10 = v.en.getD i o10) (fun k => u.en.length - k) 0 ⟨by simp, fun i hi => by omega⟩ (Wk.to (by simp) (by simp [leT])) ?_
        rintro k ⟨hk, hall⟩
        (simp only [go_sem, Nat.reduceAdd, Nat.reduceMul, Int.reduceToNat, Nat.reduceLeDiff, Int.reduceLE, Int.reduceLT, ↓reduceIte, Int.reduceBEq, Int.reduceBNe, Int.reduceAdd, Int.reduceSub, Int.reduceMul, o1s_length]; try refine okTr_and rfl ?_)
        by_cases hlt : k < u.en.length
        · have p1 : decide ((k : Int) < (u.en.length : Int)) = true := decide_eq_true (by omega)
          have ek := i64_succ k (by omega)
          have g1 := o1s_get u.en k hlt
          have g2 := o1s_get v.en k (by omega)
          have h1 := hu _ (o1_mem u.en k hlt)
          have h2 := hv _ (o1_mem v.en k (by omega))
          obtain ⟨x, ex⟩ : ∃ x, u.en.getD k o10 = x := ⟨_, rfl⟩
          obtain ⟨y, ey⟩ : ∃ y, v.en.getD k o10 = y := ⟨_, rfl⟩
          rw [ex] at g1 h1; rw [ey] at g2 h2
          have hne : ¬ x = y → same1 u v = false := fun h => hno (by rintro rfl; exact h (ex.symm.trans ey))
          (simp only [go_sem, Nat.reduceAdd, Nat.reduceMul, Int.reduceToNat, Nat.reduceLeDiff, Int.reduceLE, Int.reduceLT, ↓reduceIte, Int.reduceBEq, Int.reduceBNe, Int.reduceAdd, Int.reduceSub, Int.reduceMul, p1, g1, g2, o1s_length, Int.toNat_natCast]; try refine okTr_and rfl ?_)
          (repeat ((with_reducible refine And.intro ?_ ?_); (· exact sd)))
          by_cases d0 : x.st = y.st
          · have p2 : (x.st != y.st) = false := by simpa using d0
            by_cases d1 : x.bk = y.bk
            · have p3 : (x.bk != y.bk) = false := by simpa using d1
              by_cases d2 : x.hb = y.hb
              · have p4 : (x.hb == y.hb) = true := by simpa using d2
                (simp only [go_sem, Nat.reduceAdd, Nat.reduceMul, Int.reduceToNat, Nat.reduceLeDiff, Int.reduceLE, Int.reduceLT, ↓reduceIte, Int.reduceBEq, Int.reduceBNe, Int.reduceAdd, Int.reduceSub, Int.reduceMul, p2, p3, p4]; try refine okTr_and rfl ?_)
                (repeat ((with_reducible refine And.intro ?_ ?_); (· exact sd)))
                refine CallK.p (ref02_Same x.data y.data h1 h2) ?_
                by_cases d3 : x.data = y.data
                · have p5 : sameB x.data y.data = true := by simp [sameB, d3]
                  have hxy : x = y := by cases x; cases y; simp only at d0 d1 d2 d3; simp [d0, d1, d2, d3]
                  (simp only [go_sem, Nat.reduceAdd, Nat.reduceMul, Int.reduceToNat, Nat.reduceLeDiff, Int.reduceLE, Int.reduceLT, ↓reduceIte, Int.reduceBEq, Int.reduceBNe, Int.reduceAdd, Int.reduceSub, Int.reduceMul, p5, ek]; try refine okTr_and rfl ?_)
                  exact ⟨k + 1, ⟨hlt, fun i hi => by
                    rcases Nat.lt_or_ge i k with h | h
                    · exact hall i h
                    · obtain rfl : i = k := by omega
                      rw [ex, ey, hxy]⟩, by omega, Wk.sel [0, 1] (by simp) rfl (by simp) rfl (by simp [ixs_z]) (by simp [selT, ixs_z])⟩
                · have p5 : sameB x.data y.data = false := by simp [sameB, d3]
                  have e := hne (by rintro rfl; exact d3 rfl)
                  (simp only [go_sem, Nat.reduceAdd, Nat.reduceMul, Int.reduceToNat, Nat.reduceLeDiff, Int.reduceLE, Int.reduceLT, ↓reduceIte, Int.reduceBEq, Int.reduceBNe, Int.reduceAdd, Int.reduceSub, Int.reduceMul, p5]; try refine okTr_and rfl ?_)
                  ((refine FinK.finB r12 [] ?_ ?_); (· first | with_reducible rfl | (simp [e]; done) | rfl); (· simp [resAL, resA1, loadA, oneOr, e]))
              · have p4 : (x.hb == y.hb) = false := by simpa using d2
                have e := hne (by rintro rfl; exact d2 rfl)
                (simp only [go_sem, Nat.reduceAdd, Nat.reduceMul, Int.reduceToNat, Nat.reduceLeDiff, Int.reduceLE, Int.reduceLT, ↓reduceIte, Int.reduceBEq, Int.reduceBNe, Int.reduceAdd, Int.reduceSub, Int.reduceMul, p2, p3, p4]; try refine okTr_and rfl ?_)
                (repeat ((with_reducible refine And.intro ?_ ?_); (· exact sd)))
                ((refine FinK.finB r12 [] ?_ ?_); (· first | with_reducible rfl | (simp [e]; done) | rfl); (· simp [resAL, resA1, loadA, oneOr, e]))
            · have p3 : (x.bk != y.bk) = true := by simpa using d1
              have e := hne (by rintro rfl; exact d1 rfl)
              (simp only [go_sem, Nat.reduceAdd, Nat.reduceMul, Int.reduceToNat, Nat.reduceLeDiff, Int.reduceLE, Int.reduceLT, ↓reduceIte, Int.reduceBEq, Int.reduceBNe, Int.reduceAdd, Int.reduceSub, Int.reduceMul, p2, p3]; try refine okTr_and rfl ?_)
              (repeat ((with_reducible refine And.intro ?_ ?_); (· exact sd)))
              ((refine FinK.finB r12 [] ?_ ?_); (· first | with_reducible rfl | (simp [e]; done) | rfl); (· simp [resAL, resA1, loadA, oneOr, e]))
          · have p2 : (x.st != y.st) = true := by simpa using d0
            have e := hne (by rintro rfl; exact d0 rfl)
            (simp only [go_sem, Nat.reduceAdd, Nat.reduceMul, Int.reduceToNat, Nat.reduceLeDiff, Int.reduceLE, Int.reduceLT, ↓reduceIte, Int.reduceBEq, Int.reduceBNe, Int.reduceAdd, Int.reduceSub, Int.reduceMul, p2]; try refine okTr_and rfl ?_)
            (repeat ((with_reducible refine And.intro ?_ ?_); (· exact sd)))
            ((refine FinK.finB r12 [] ?_ ?_); (· first | with_reducible rfl | (simp [e]; done) | rfl); (· simp [resAL, resA1, loadA, oneOr, e]))
        · have p1 : decide ((k : Int) < (u.en.length : Int)) = false := decide_eq_false (by omega)
          have e : same1 u v = true := by
            have hen : u.en = v.en := List.ext_getElem hlen fun i h1 h2 => by
              have := hall i (by omega)
              simpa [h1, h2] using this
            simp only [same1, decide_eq_true_eq]
            cases u; cases v; simp only at c0 c1 hen; simp [c0, c1, hen]
          (simp only [go_sem, Nat.reduceAdd, Nat.reduceMul, Int.reduceToNat, Nat.reduceLeDiff, Int.reduceLE, Int.reduceLT, ↓reduceIte, Int.reduceBEq, Int.reduceBNe, Int.reduceAdd, Int.reduceSub, Int.reduceMul, p1]; try refine okTr_and rfl ?_)
          ((refine FinK.finB r12 [] ?_ ?_); (· first | with_reducible rfl | (simp [e]; done) | rfl); (· simp [resAL, resA1, loadA, oneOr, e]))
      · have q2 : ((u.en.length : Int) != (v.en.length : Int)) = true := by simp; omega
        have e := hno (by rintro rfl; exact hlen rfl)
        (simp only [go_sem, Nat.reduceAdd, Nat.reduceMul, Int.reduceToNat, Nat.reduceLeDiff, Int.reduceLE, Int.reduceLT, ↓reduceIte, Int.reduceBEq, Int.reduceBNe, Int.reduceAdd, Int.reduceSub, Int.reduceMul, q0, q1, o1s_length, q2]; try refine okTr_and rfl ?_)
        ((refine FinK.finB r12 [] ?_ ?_); (· first | with_reducible rfl | (simp [e]; done) | rfl); (· simp [resAL, resA1, loadA, oneOr, e]))
    · have q1 : (u.base != v.base) = true := by simpa using c1
      have e := hno (by rintro rfl; exact c1 rfl)
      (simp only [go_sem, Nat.reduceAdd, Nat.reduceMul, Int.reduceToNat, Nat.reduceLeDiff, Int.reduceLE, Int.reduceLT, ↓reduceIte, Int.reduceBEq, Int.reduceBNe, Int.reduceAdd, Int.reduceSub, Int.reduceMul, q0, q1]; try refine okTr_and rfl ?_)
      ((refine FinK.finB r12 [] ?_ ?_); (· first | with_reducible rfl | (simp [e]; done) | rfl); (· simp [resAL, resA1, loadA, oneOr, e]))
  · have q0 : (u.ep != v.ep) = true := by simpa using c0
    have e := hno (by rintro rfl; exact c0 rfl)
    (simp only [go_sem, Nat.reduceAdd, Nat.reduceMul, Int.reduceToNat, Nat.reduceLeDiff, Int.reduceLE, Int.reduceLT, ↓reduceIte, Int.reduceBEq, Int.reduceBNe, Int.reduceAdd, Int.reduceSub, Int.reduceMul, q0]; try refine okTr_and rfl ?_)
    ((refine FinK.finB r12 [] ?_ ?_); (· first | with_reducible rfl | (simp [e]; done) | rfl); (· simp [resAL, resA1, loadA, oneOr, e]))
theorem ref35_Same1 (u v : Sg1) (hu : ∀ x ∈ u.en, Bys x.data) (hv : ∀ x ∈ v.en, Bys x.data) (hn : u.en.length ≤ 1000000) : Ct Tryz.prog 12 [sg1A u, sg1A v] [] (fun _ => bA (same1 u v)) [] (fun _ => []) := (ref35_Same10 u v hu hv hn).toCt cl cl
end Go.Proofs.YtnfagphepkeedaaGreat
end
section
namespace Go.Proofs.YtnfagphepkeedaaGreat
variable {P : Program} {S : List AObj} {K : KT} {f : FuncId} {args args₀ : List AV}

theorem Wa.any1 {x : AV} (hx : x.cells = [x]) : Wa x .any := one_cel hx rfl fun _ v _ => .any v
theorem Wa.anyL (v : Value) : Wa (.lit v) .any := Wa.any1 rfl
theorem Wa.anyS (t : Tag) (k : Nat) (xs : List AV) : Wa (.sl t k xs) .any := Wa.any1 rfl
theorem Ct.u3 {o₀ p₀ q₀ o₁ p₁ q₁ o p q o' p' q' : AObj} {r : AV} (h : Does P f args₀ [o₀, p₀, q₀] r [o₁, p₁, q₁]) (i j k : Nat) (hn : [i, j, k].Nodup) (ha : ∀ N, args₀.map (fun x => x.ren (ixs [i, j, k] N)) = args)
    (ho : ∀ N, o₀.ren (ixs [i, j, k] N) = o) (hp : ∀ N, p₀.ren (ixs [i, j, k] N) = p) (hq : ∀ N, q₀.ren (ixs [i, j, k] N) = q) (ho' : ∀ N, o₁.ren (ixs [i, j, k] N) = o') (hp' : ∀ N, p₁.ren (ixs [i, j, k] N) = p') (hq' : ∀ N, q₁.ren (ixs [i, j, k] N) = q')
    (hd : ∀ x ∈ [o₀, p₀, q₀], x ≠ .dead) (hr : ∀ ρ, r.ren ρ = r) :
    Ct P f args [(i, o), (j, p), (k, q)] (fun _ => r) [(i, o'), (j, p'), (k, q')] (fun _ => []) :=
  Ct.mk h [i, j, k] hn rfl (by simp) hd (fun n N => by simpa using ha N) (fun n N => hr _) (fun n N => by simp [ho, hp, hq]) (.inl fun n N => by simp [ho', hp', hq']) (fun n N => rfl)
theorem CallK.u3 {r : AV} {i j k : Nat} {o p q o' p' q' : AObj} (h : Ct P f (args.map Proofs.YtnfagphepkeedaaGreat.untag) [(i, o), (j, p), (k, q)] (fun _ => r) [(i, o'), (j, p'), (k, q')] (fun _ => [])) (hS : S[i]? = some o) (hS' : S[j]? = some p) (hS'' : S[k]? = some q)
    (hK : K r [i, j, k] [(i, o'), (j, p'), (k, q')] []) : CallK P f args S K := CallK.of h.untag (by simp [hS, hS', hS'']) (by simp) hK
theorem Ct.u4 {o₀ p₀ q₀ s₀ o₁ p₁ q₁ s₁ o p q s o' p' q' s' : AObj} {r : AV} (h : Does P f args₀ [o₀, p₀, q₀, s₀] r [o₁, p₁, q₁, s₁]) (i j k l : Nat) (hn : [i, j, k, l].Nodup) (ha : ∀ N, args₀.map (fun x => x.ren (ixs [i, j, k, l] N)) = args)
    (ho : ∀ N, o₀.ren (ixs [i, j, k, l] N) = o) (hp : ∀ N, p₀.ren (ixs [i, j, k, l] N) = p) (hq : ∀ N, q₀.ren (ixs [i, j, k, l] N) = q) (hs : ∀ N, s₀.ren (ixs [i, j, k, l] N) = s) (ho' : ∀ N, o₁.ren (ixs [i, j, k, l] N) = o') (hp' : ∀ N, p₁.ren (ixs [i, j, k, l] N) = p') (hq' : ∀ N, q₁.ren (ixs [i, j, k, l] N) = q') (hs' : ∀ N, s₁.ren (ixs [i, j, k, l] N) = s')
    (hd : ∀ x ∈ [o₀, p₀, q₀, s₀], x ≠ .dead) (hr : ∀ ρ, r.ren ρ = r) :
    Ct P f args [(i, o), (j, p), (k, q), (l, s)] (fun _ => r) [(i, o'), (j, p'), (k, q'), (l, s')] (fun _ => []) :=
  Ct.mk h [i, j, k, l] hn rfl (by simp) hd (fun n N => by simpa using ha N) (fun n N => hr _) (fun n N => by simp [ho, hp, hq, hs]) (.inl fun n N => by simp [ho', hp', hq', hs']) (fun n N => rfl)
theorem CallK.u4 {r : AV} {i j k l : Nat} {o p q s o' p' q' s' : AObj} (h : Ct P f (args.map Proofs.YtnfagphepkeedaaGreat.untag) [(i, o), (j, p), (k, q), (l, s)] (fun _ => r) [(i, o'), (j, p'), (k, q'), (l, s')] (fun _ => [])) (hS : S[i]? = some o) (hS' : S[j]? = some p) (hS'' : S[k]? = some q) (hS3 : S[l]? = some s)
    (hK : K r [i, j, k, l] [(i, o'), (j, p'), (k, q'), (l, s')] []) : CallK P f args S K := CallK.of h.untag (by simp [hS, hS', hS'', hS3]) (by simp) hK
end Go.Proofs.YtnfagphepkeedaaGreat
end
