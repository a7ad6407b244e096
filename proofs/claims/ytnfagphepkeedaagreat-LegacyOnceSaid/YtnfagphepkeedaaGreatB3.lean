/-
  Contracts of chapter 6: bytes with their number, lists, fixed numbers. Contracts of chapter 6: lists; the reference's. Contracts of chapter 6: the reference's; fixed numbers written; live. Contracts of the pen's fixed numbers; live of chapter 6.
  Contracts of chapter 22: differences of falling lists. Contracts of chapter 22: falling lists read; the reference's; live.
  Contracts of chapter 23: which links are well-formed, how they are written.
  Contracts of chapter 23: links read, by the code and by the reference.
  Words over any program: rows that are given and grow; values told less exactly within.
  Contracts of chapter 23: the reference's links; links extended; live.
  The seat's own two facts on its program.
  From a law told over abstract values to calls in a world; how arguments are told.
  Chapter 23: LinkReads, LinkWrites.
  Contracts of chapter 24: entries' heads, by the code and by the reference; live.
  Contracts of entries, many: law24.Many, Total, Join by the reference, All.
  Contract of entry.Deal.
  Contracts of epoch and of its reference.
  Plain laws of chapter 11: tokens. No program.
  Plain laws of things that are read to the end; tokens and the bytes that they make. No program.
  Contracts of chapter 11: tokens, one by one.
  Contracts of chapters 11 and 12: tokens by the reference; expanding tokens.
  Plain laws of chapter 12: the bytes of written tokens, how many they are. No program.
  Contracts of chapter 11: tokens written.
  Contracts of chapter 11: tokens written by the reference, tokens read.
  Contracts of chapter 11: all tokens of some bytes; are tokens the same; live.
  Contracts of chapter 35: which segments of the version 1 are well-formed, which are the same.
  Contracts of chapter 35: segments of the version 1, the same or not; by the reference; long ones.
  Contracts that turn three or four objects; a value of which nothing is told. Over any program.
  Contracts of chapters 3 and 7: sums of bytes, by the code and by the reference; bytes some of whose digits are turned; a number's bytes.
  Contracts of chapter 8: frames, by the code and by the reference.
  Contracts of header's functions.
  Contracts of header's reading functions.
  Contracts of the reference's headers; live.
  Contracts of footer's checks and of its payload's reading, and of the reference's.
  Contracts of footer's payload's reading, and of the reference's.
-/
import Derived.Test.YtnfagphepkeedaaGreatB2
import Derived.Test.YtnfagphepkeedaaGreatB1
import Derived.Test.YtnfagphepkeedaaGreatRows
set_option linter.all false
set_option linter.unusedSimpArgs false
set_option linter.unusedVariables false
set_option linter.unnecessarySimpa false
section
section
namespace Go.Proofs.YtnfagphepkeedaaGreat
open Go.RowKit

theorem mx0 (n : Int) : (if (0 : Int) > n then 0 else n) = max n 0 := by split <;> omega
theorem mn (n k : Int) : (if k < n then k else n) = min n k := by split <;> omega
theorem len_u64 {β : Type} (b : List β) (h : b.length < 18446744073709551616) : IntKind.u64.wrap (b.length : Int) = (b.length : Int) := IntWalk.u64_in _ (by omega)
theorem i64_succ (k : Nat) (h : k < 140737488355329) : IntKind.i64.wrap ((k : Int) + 1) = ((k + 1 : Nat) : Int) := by rw [IntWalk.i64_in _ (by omega)]; omega

theorem blob_Put0 (s : WS) (b : List Int) (hs : s.fine) (hb : b.length ≤ 140737488355328) : Does Tryz.prog 69 [.ref 0 0, slA .u8 b] [wob 1 s, wrow s] (.tup []) [wob 1 ((s.put (vb b.length)).put b), wrow ((s.put (vb b.length)).put b)] := by
  have e := len_u64 b (by omega)
  refine Does.runA Tryz.func69 b69 n69 Tryz.ntmps69 ?_; simp only [c69, go_sem, Nat.reduceAdd, Nat.reduceMul, Int.reduceToNat, Nat.reduceLeDiff, Int.reduceLE, Int.reduceLT, ↓reduceIte, Int.reduceBEq, Int.reduceBNe, Int.reduceAdd, Int.reduceSub, Int.reduceMul, ints_length, e]; try refine okTr_and rfl ?_
  refine CallK.u2 (varint_Put s b.length 0 1 (by decide) (by omega) (by omega) hs.ok (hs.room _)) rfl rfl ?_
  (simp only [go_sem, Nat.reduceAdd, Nat.reduceMul, Int.reduceToNat, Nat.reduceLeDiff, Int.reduceLE, Int.reduceLT, ↓reduceIte, Int.reduceBEq, Int.reduceBNe, Int.reduceAdd, Int.reduceSub, Int.reduceMul]; try refine okTr_and rfl ?_)
  refine CallK.u2 (Writer_Put _ b 0 1 (by decide) (hs.put _).ok ((hs.put _).room _)) rfl rfl ?_
  (simp only [go_sem, Nat.reduceAdd, Nat.reduceMul, Int.reduceToNat, Nat.reduceLeDiff, Int.reduceLE, Int.reduceLT, ↓reduceIte, Int.reduceBEq, Int.reduceBNe, Int.reduceAdd, Int.reduceSub, Int.reduceMul]; try refine okTr_and rfl ?_)
  exact FinK.finA r69 [0, 1]
theorem blob_Put (s : WS) (b : List Int) (i j : Nat) (h : i ≠ j) (hs : s.fine) (hb : b.length ≤ 140737488355328) : Ct Tryz.prog 69 [.ref i 0, slA .u8 b] [(i, wob j s), (j, wrow s)] (fun _ => .tup []) [(i, wob j ((s.put (vb b.length)).put b)), (j, wrow ((s.put (vb b.length)).put b))] (fun _ => []) := Ct.u2 (blob_Put0 s b hs hb) i j h cl cl cl cl cl (wob_dead _ _) (wrow_dead _) clo
theorem blob_Read0 (s : RS) (m : Int) (m1 : m < 9223372036854775808) (hs : ROk s) : Does Tryz.prog 105 [.ref 0 0, iA m] [rdr s] (slA .u8 (s.blob m).2) [rdr (s.blob m).1] := by
  refine Does.runA Tryz.func105 b105 n105 Tryz.ntmps105 ?_; simp only [c105, go_sem, Nat.reduceAdd, Nat.reduceMul, Int.reduceToNat, Nat.reduceLeDiff, Int.reduceLE, Int.reduceLT, ↓reduceIte, Int.reduceBEq, Int.reduceBNe, Int.reduceAdd, Int.reduceSub, Int.reduceMul]; try refine okTr_and rfl ?_
  refine CallK.u1 (varint_ReadInt s m 0 m1 hs.ok hs.bys) rfl ?_
  (simp only [go_sem, Nat.reduceAdd, Nat.reduceMul, Int.reduceToNat, Nat.reduceLeDiff, Int.reduceLE, Int.reduceLT, ↓reduceIte, Int.reduceBEq, Int.reduceBNe, Int.reduceAdd, Int.reduceSub, Int.reduceMul]; try refine okTr_and rfl ?_)
  refine CallK.u1 (Reader_Take _ _ 0 (hs.int m).1.ok) rfl ?_
  (simp only [go_sem, Nat.reduceAdd, Nat.reduceMul, Int.reduceToNat, Nat.reduceLeDiff, Int.reduceLE, Int.reduceLT, ↓reduceIte, Int.reduceBEq, Int.reduceBNe, Int.reduceAdd, Int.reduceSub, Int.reduceMul]; try refine okTr_and rfl ?_)
  ((refine FinK.finB r105 [0] ?_ ?_); (· first | with_reducible rfl | (simp [RS.blob]; done) | rfl); (· simp [resAL, resA1, loadA, oneOr, RS.blob]))
theorem blob_Read (s : RS) (m : Int) (i : Nat) (m1 : m < 9223372036854775808) (hs : ROk s) : Ct Tryz.prog 105 [.ref i 0, iA m] [(i, rdr s)] (fun _ => slA .u8 (s.blob m).2) [(i, rdr (s.blob m).1)] (fun _ => []) := Ct.u1 (blob_Read0 s m m1 hs) i clo (fun ρ => rdr_ren ρ s) (fun ρ => rdr_ren ρ _) (rdr_dead s) cl
theorem blob_Size0 (n : Int) (n1 : n ≤ 4611686018427387904) : Does Tryz.prog 167 [iA n] [] (iA ((vb (max n 0)).length + max n 0)) [] := by
  have e0 := mx0 n
  have e1 : IntKind.u64.wrap (max n 0) = max n 0 := IntWalk.u64_in _ (by omega)
  have hv := (vb_len (max n 0)).2
  have e2 : IntKind.i64.wrap (((vb (max n 0)).length : Int) + max n 0) = (vb (max n 0)).length + max n 0 := IntWalk.i64_in _ (by omega)
  refine Does.runA Tryz.func167 b167 n167 Tryz.ntmps167 ?_; simp only [c167, go_sem, Nat.reduceAdd, Nat.reduceMul, Int.reduceToNat, Nat.reduceLeDiff, Int.reduceLE, Int.reduceLT, ↓reduceIte, Int.reduceBEq, Int.reduceBNe, Int.reduceAdd, Int.reduceSub, Int.reduceMul, e0, e1]; try refine okTr_and rfl ?_
  refine CallK.p (varint_Size (max n 0) (by omega) (by omega)) ?_
  (simp only [go_sem, Nat.reduceAdd, Nat.reduceMul, Int.reduceToNat, Nat.reduceLeDiff, Int.reduceLE, Int.reduceLT, ↓reduceIte, Int.reduceBEq, Int.reduceBNe, Int.reduceAdd, Int.reduceSub, Int.reduceMul, e2]; try refine okTr_and rfl ?_)
  exact FinK.finA r167 []
theorem blob_Size (n : Int) (n1 : n ≤ 4611686018427387904) : Ct Tryz.prog 167 [iA n] [] (fun _ => iA ((vb (max n 0)).length + max n 0)) [] (fun _ => []) := (blob_Size0 n n1).toCt clo clo

theorem or_join256 (i : Nat) (hi : i ≤ 7) (x c : Int) (h0 : 0 ≤ x) (h1 : x < 256 ^ i) (c0 : 0 ≤ c) (c1 : c < 256) :
    bitsI .or .u64 x (IntKind.u64.wrap (IntKind.u64.wrap c * 2 ^ min (8 * (i : Int)).toNat 64)) = x + 256 ^ i * c := by
  obtain ⟨n, rfl⟩ := Int.eq_ofNat_of_zero_le c0
  obtain ⟨m, rfl⟩ := Int.eq_ofNat_of_zero_le h0
  have e2 : min (8 * (i : Int)).toNat 64 = 8 * i := by omega
  have e1 : IntKind.u64.wrap (n : Int) = n := IntWalk.u64_in _ (by omega)
  have hp : (2 : Int) ^ (8 * i) = 256 ^ i := by rw [Int.pow_mul]; rfl
  have hpos : (0 : Int) < 256 ^ i := Int.pow_pos (by omega)
  have hcast : ((256 ^ i : Nat) : Int) = 256 ^ i := by rw [Int.natCast_pow]; rfl
  have h1' : m < 256 ^ i := by omega
  have hB : n * 256 ^ i < 18446744073709551616 := by
    have : i = 0 ∨ i = 1 ∨ i = 2 ∨ i = 3 ∨ i = 4 ∨ i = 5 ∨ i = 6 ∨ i = 7 := by omega
    rcases this with rfl | rfl | rfl | rfl | rfl | rfl | rfl | rfl <;> simp <;> omega
  have hm : (m : Int) < 18446744073709551616 := by
    have : i = 0 ∨ i = 1 ∨ i = 2 ∨ i = 3 ∨ i = 4 ∨ i = 5 ∨ i = 6 ∨ i = 7 := by omega
    rcases this with rfl | rfl | rfl | rfl | rfl | rfl | rfl | rfl <;> simp at h1 <;> omega
  have e0 : (n : Int) * 256 ^ i = ((n * 256 ^ i : Nat) : Int) := by rw [Int.natCast_mul, hcast]
  have e3 : IntKind.u64.wrap ((n : Int) * 2 ^ (8 * i)) = ((n * 256 ^ i : Nat) : Int) := by
    rw [hp, e0]
    exact IntWalk.u64_in _ (by omega)
  rw [e2, e1, e3]
  show bits .or .u64 (m : Int) _ = _
  rw [u64_or_nat m _ (by omega) hB]
  have e4 : m ||| n * 256 ^ i = n * 256 ^ i + m := by
    rw [Nat.or_comm]
    have q : (2 : Nat) ^ (8 * i) = 256 ^ i := by rw [Nat.pow_mul]
    exact nat_join (8 * i) _ _ (by rw [q]; exact Nat.mul_mod_left _ _) (by rw [q]; exact h1')
  rw [e4, Int.natCast_add, ← e0, Int.mul_comm, Int.add_comm]
theorem fix_take (b : List Int) (k : Nat) (h : k < b.length) : fixOf (b.take (k + 1)) = fixOf (b.take k) + 256 ^ k * b.getD k 0 := by
  have hl : (b.take k).length = k := by simp; omega
  rw [take_snoc b k h, fixOf_snoc, hl]
set_option maxRecDepth 100000 in
theorem blob_ReadFixed0 (s : RS) (n : Int) (hs : ROk s) : Does Tryz.prog 36 [.ref 0 0, iA n] [rdr s] (uA (s.fixed (min (max n 0) 8)).2) [rdr (s.fixed (min (max n 0) 8)).1] := by
  have e0 := mx0 n
  have e1 := mn (max n 0) 8
  unfold RS.fixed
  obtain ⟨m, hm⟩ : ∃ m, min (max n 0) 8 = m := ⟨_, rfl⟩
  have hm8 : m ≤ 8 := by omega
  rw [hm] at e1 ⊢
  have htl : (s.take m).2.length ≤ 8 := by
    by_cases hc : (s.take m).1.code = 0
    · have := (take_bytes hs hc).2.2.1; omega
    · rw [take_bad hc]; simp
  have htb := take_bys hs.bys m
  refine Does.runA Tryz.func36 b36 n36 Tryz.ntmps36 ?_; simp only [c36, go_sem, Nat.reduceAdd, Nat.reduceMul, Int.reduceToNat, Nat.reduceLeDiff, Int.reduceLE, Int.reduceLT, ↓reduceIte, Int.reduceBEq, Int.reduceBNe, Int.reduceAdd, Int.reduceSub, Int.reduceMul, e0, e1]; try refine okTr_and rfl ?_
  refine CallK.u1 (Reader_Take s m 0 hs.ok) rfl ?_
  generalize (s.take m).1 = t at *
  generalize (s.take m).2 = b at *
  (simp only [go_sem, Nat.reduceAdd, Nat.reduceMul, Int.reduceToNat, Nat.reduceLeDiff, Int.reduceLE, Int.reduceLT, ↓reduceIte, Int.reduceBEq, Int.reduceBNe, Int.reduceAdd, Int.reduceSub, Int.reduceMul, ints_length]; try refine okTr_and rfl ?_)
  refine loop_of (α := Nat) (fun k => [.any, .any, .any, .any, .any, uA (fixOf (b.take k)), .any, .any, .any, .any, .any, .any, slA .u8 b, iA b.length, iA k, .any, .any, .any, .any, .any, .any, .any, .any, .any, .any, .any, .any, .any]) (fun _ => [rdr t]) (fun k => k ≤ b.length) (fun k => b.length - k) 0 (by simp) (Wk.forget (by simp [leT, fixOf])) ?_
  intro k hk
  (simp only [go_sem, Nat.reduceAdd, Nat.reduceMul, Int.reduceToNat, Nat.reduceLeDiff, Int.reduceLE, Int.reduceLT, ↓reduceIte, Int.reduceBEq, Int.reduceBNe, Int.reduceAdd, Int.reduceSub, Int.reduceMul]; try refine okTr_and rfl ?_)
  refine cdK_split (fun h => ?_) (fun h => ?_)
  · have hlt : k < b.length := by simpa using h
    have g := u8_get b k (by omega) (by omega)
    rw [Int.toNat_natCast] at g
    have hr := fixOf_range (l := b.take k) fun x hx => htb x (List.mem_of_mem_take hx)
    have hkl : (b.take k).length = k := by simp; omega
    rw [hkl] at hr
    have hc := htb _ (getD_mem b k hlt)
    have eo := or_join256 k (by omega) (fixOf (b.take k)) (b.getD k 0) hr.1 hr.2 hc.1 hc.2
    have em : IntKind.i64.wrap (8 * (k : Int)) = 8 * k := IntWalk.i64_in _ (by omega)
    rw [← fix_take b k hlt] at eo
    have ei := i64_succ k (by omega)
    (simp only [go_sem, Nat.reduceAdd, Nat.reduceMul, Int.reduceToNat, Nat.reduceLeDiff, Int.reduceLE, Int.reduceLT, ↓reduceIte, Int.reduceBEq, Int.reduceBNe, Int.reduceAdd, Int.reduceSub, Int.reduceMul, g, ints_length, Int.toNat_natCast, em, eo, ei]; try refine okTr_and rfl ?_)
    (repeat ((with_reducible refine And.intro ?_ ?_); (· exact sd)))
    exact ⟨k + 1, hlt, by omega, Wk.to (by simp) (by simp [leT])⟩
  · have ek : k = b.length := by simp at h; omega
    (simp only [go_sem, Nat.reduceAdd, Nat.reduceMul, Int.reduceToNat, Nat.reduceLeDiff, Int.reduceLE, Int.reduceLT, ↓reduceIte, Int.reduceBEq, Int.reduceBNe, Int.reduceAdd, Int.reduceSub, Int.reduceMul]; try refine okTr_and rfl ?_)
    ((refine FinK.finB r36 [0] ?_ ?_); (· first | with_reducible rfl | (simp [ek]; done) | rfl); (· simp [resAL, resA1, loadA, oneOr, ek]))
theorem blob_ReadFixed (s : RS) (n : Int) (i : Nat) (hs : ROk s) : Ct Tryz.prog 36 [.ref i 0, iA n] [(i, rdr s)] (fun _ => uA (s.fixed (min (max n 0) 8)).2) [(i, rdr (s.fixed (min (max n 0) 8)).1)] (fun _ => []) := Ct.u1 (blob_ReadFixed0 s n hs) i clo (fun ρ => rdr_ren ρ s) (fun ρ => rdr_ren ρ _) (rdr_dead s) clo
end Go.Proofs.YtnfagphepkeedaaGreat
end
section
namespace Go.Proofs.YtnfagphepkeedaaGreat
open Go.RowKit

end Go.Proofs.YtnfagphepkeedaaGreat
end
section
namespace Go.Proofs.YtnfagphepkeedaaGreat
open Go.RowKit

end Go.Proofs.YtnfagphepkeedaaGreat
end
section
namespace Go.Proofs.YtnfagphepkeedaaGreat
open Go.RowKit

theorem div_pow (x : Int) (k : Nat) : x / 256 ^ k / 256 = x / 256 ^ (k + 1) := by
  have hp : (0 : Int) < 256 ^ k := Int.pow_pos (by omega)
  rw [Int.ediv_ediv_of_nonneg (by omega), Int.pow_succ]
theorem pen_Fixed0 (x n : Int) (h0 : 0 ≤ x) (h1 : x < 18446744073709551616) : Does Tryz.prog 71 [uA x, iA n] [] (slA .u8 (lowBytes (min (max n 0) 8).toNat x)) [] := by
  have e0 := mx0 n
  have e1 := mn (max n 0) 8
  obtain ⟨m, hm⟩ : ∃ m : Nat, (min (max n 0) 8).toNat = m := ⟨_, rfl⟩
  have hm8 : m ≤ 8 := by omega
  have hm' : min (max n 0) 8 = (m : Int) := by omega
  rw [hm'] at e1
  rw [hm]
  refine Does.runA Tryz.func71 b71 n71 Tryz.ntmps71 ?_; simp only [c71, go_sem, Nat.reduceAdd, Nat.reduceMul, Int.reduceToNat, Nat.reduceLeDiff, Int.reduceLE, Int.reduceLT, ↓reduceIte, Int.reduceBEq, Int.reduceBNe, Int.reduceAdd, Int.reduceSub, Int.reduceMul, e0, e1]; try refine okTr_and rfl ?_
  refine loop_of (α := Nat) (fun k => [uA (x / 256 ^ k), .any, .any, .any, .any, ownA 0 (lowBytes k x), .any, .any, iA m, iA k, .any, .any, .any, .any, .any, .any, .any, .any, .any, .any, .any]) (fun k => [.row 1 k]) (fun k => k ≤ m) (fun k => m - k) 0 (by simp) ((Wk.row 5 1 rfl (.inl rfl) (Nat.le_refl _)).trans (Wk.to (by simp) (by simp [leT, ints, lowBytes]))) ?_
  intro k hk
  have hq0 : 0 ≤ x / 256 ^ k := Int.ediv_nonneg h0 (Int.le_of_lt (Int.pow_pos (by omega)))
  have hq1 : x / 256 ^ k ≤ x := Int.ediv_le_self _ h0
  have hd := div_pow x k
  have hs := lowBytes_snoc k x
  have hl := lowBytes_len k x
  (simp only [go_sem, Nat.reduceAdd, Nat.reduceMul, Int.reduceToNat, Nat.reduceLeDiff, Int.reduceLE, Int.reduceLT, ↓reduceIte, Int.reduceBEq, Int.reduceBNe, Int.reduceAdd, Int.reduceSub, Int.reduceMul]; try refine okTr_and rfl ?_)
  refine cdK_split (fun h => ?_) (fun h => ?_)
  · have hlt : k < m := by simpa using h
    obtain ⟨y, hy⟩ : ∃ y, x / 256 ^ k = y := ⟨_, rfl⟩
    rw [hy] at hq0 hq1 hd hs
    have em : y.tmod 256 = y % 256 := Int.tmod_eq_emod_of_nonneg hq0
    have eu : IntKind.u8.wrap (y % 256) = y % 256 := IntWalk.u8_in _ (by omega)
    have ed : IntKind.u64.wrap (y.tdiv 256) = x / 256 ^ (k + 1) := by rw [Int.tdiv_eq_ediv_of_nonneg hq0, IntWalk.u64_in _ (by omega), hd]
    have ei := i64_succ k (by omega)
    (simp only [go_sem, Nat.reduceAdd, Nat.reduceMul, Int.reduceToNat, Nat.reduceLeDiff, Int.reduceLE, Int.reduceLT, ↓reduceIte, Int.reduceBEq, Int.reduceBNe, Int.reduceAdd, Int.reduceSub, Int.reduceMul, hy, em, eu, ed, ei, ints_snoc, ← hs, ints_length, hl]; try refine okTr_and rfl ?_)
    (repeat ((with_reducible refine And.intro ?_ ?_); (· exact sd)))
    exact ⟨k + 1, hlt, by omega, Wk.to (by simp) (by simp [leT])⟩
  · have ek : k = m := by simp at h; omega
    (simp only [go_sem, Nat.reduceAdd, Nat.reduceMul, Int.reduceToNat, Nat.reduceLeDiff, Int.reduceLE, Int.reduceLT, ↓reduceIte, Int.reduceBEq, Int.reduceBNe, Int.reduceAdd, Int.reduceSub, Int.reduceMul]; try refine okTr_and rfl ?_)
    (refine FinK.untag 4 rfl ?_; simp only [untag1_sl, List.set_cons_zero, List.set_cons_succ])
    ((refine FinK.finB r71 [] ?_ ?_); (· first | with_reducible rfl | (simp [ek]; done) | rfl); (· simp [resAL, resA1, loadA, oneOr, ek]))
theorem pen_Fixed (x n : Int) (h0 : 0 ≤ x) (h1 : x < 18446744073709551616) : Ct Tryz.prog 71 [uA x, iA n] [] (fun _ => slA .u8 (lowBytes (min (max n 0) 8).toNat x)) [] (fun _ => []) := (pen_Fixed0 x n h0 h1).toCt cl cl
theorem Writer_Fixed0 (s : WS) (x n : Int) (h0 : 0 ≤ x) (h1 : x < 18446744073709551616) (hs : s.fine) : Does Tryz.prog 154 [.ref 0 0, uA x, iA n] [wob 1 s, wrow s] (.tup []) [wob 1 (s.put (lowBytes (min (max n 0) 8).toNat x)), wrow (s.put (lowBytes (min (max n 0) 8).toNat x))] := by
  refine Does.runA Tryz.func154 b154 n154 Tryz.ntmps154 ?_; simp only [c154, go_sem, Nat.reduceAdd, Nat.reduceMul, Int.reduceToNat, Nat.reduceLeDiff, Int.reduceLE, Int.reduceLT, ↓reduceIte, Int.reduceBEq, Int.reduceBNe, Int.reduceAdd, Int.reduceSub, Int.reduceMul]; try refine okTr_and rfl ?_
  refine CallK.p (pen_Fixed x n h0 h1) ?_; (simp only [go_sem, Nat.reduceAdd, Nat.reduceMul, Int.reduceToNat, Nat.reduceLeDiff, Int.reduceLE, Int.reduceLT, ↓reduceIte, Int.reduceBEq, Int.reduceBNe, Int.reduceAdd, Int.reduceSub, Int.reduceMul]; try refine okTr_and rfl ?_)
  refine CallK.u2 (Writer_Put s _ 0 1 (by decide) hs.ok (hs.room _)) rfl rfl ?_; (simp only [go_sem, Nat.reduceAdd, Nat.reduceMul, Int.reduceToNat, Nat.reduceLeDiff, Int.reduceLE, Int.reduceLT, ↓reduceIte, Int.reduceBEq, Int.reduceBNe, Int.reduceAdd, Int.reduceSub, Int.reduceMul]; try refine okTr_and rfl ?_)
  exact FinK.finA r154 [0, 1]
theorem Writer_Fixed (s : WS) (x n : Int) (i j : Nat) (h : i ≠ j) (h0 : 0 ≤ x) (h1 : x < 18446744073709551616) (hs : s.fine) : Ct Tryz.prog 154 [.ref i 0, uA x, iA n] [(i, wob j s), (j, wrow s)] (fun _ => .tup []) [(i, wob j (s.put (lowBytes (min (max n 0) 8).toNat x))), (j, wrow (s.put (lowBytes (min (max n 0) 8).toNat x)))] (fun _ => []) := Ct.u2 (Writer_Fixed0 s x n h0 h1 hs) i j h cl cl cl cl cl (wob_dead _ _) (wrow_dead _) clo

end Go.Proofs.YtnfagphepkeedaaGreat
end
end
section
section
namespace Go.Proofs.YtnfagphepkeedaaGreat
open Go.RowKit

def dstR (b : Int) (l : List Int) : List Int := if falls b l = true then dsts b l l.length else []
theorem delta_Steps0 (b : Int) (l : List Int) (b0 : 0 ≤ b) (b1 : b < 18446744073709551616) (hl : U64s l) (hn : l.length * 8 ≤ 140737488355328) : Does Tryz.prog 187 [uA b, slU l] [] (.tup [slU (dstR b l), bA (falls b l)]) [] := by
  refine Does.runA Tryz.func187 b187 n187 Tryz.ntmps187 ?_; simp only [c187, go_sem, Nat.reduceAdd, Nat.reduceMul, Int.reduceToNat, Nat.reduceLeDiff, Int.reduceLE, Int.reduceLT, ↓reduceIte, Int.reduceBEq, Int.reduceBNe, Int.reduceAdd, Int.reduceSub, Int.reduceMul, ints_length]; try refine okTr_and rfl ?_
  refine loop_of (α := Nat) (fun k => [uA (bat b l k), .any, .any, .any, .any, .any, .sl (.row 0) 1 (ints .u64 (dsts b l k)), .any, .any, slU l, iA l.length, iA k, .any, .any, .any, .any, .any, .any, .any, .any, .any, .any, .any, .any, .any, .any, .any, .any]) (fun k => [.row 1 k]) (fun k => k ≤ l.length ∧ ∀ i, i < k → l.getD i 0 < bat b l i) (fun k => l.length - k) 0 ⟨by simp, by intro i hi; omega⟩ ((Wk.row 6 1 rfl (.inl rfl) (Nat.le_refl _)).trans (Wk.to (by simp) (by simp [leT, ints, dsts, bat]))) ?_
  rintro k ⟨hk, hf⟩
  have hbk : bat b l k < 18446744073709551616 := by
    unfold bat
    split
    · exact b1
    · exact (hl _ (getD_mem l (k - 1) (by omega))).2
  (simp only [go_sem, Nat.reduceAdd, Nat.reduceMul, Int.reduceToNat, Nat.reduceLeDiff, Int.reduceLE, Int.reduceLT, ↓reduceIte, Int.reduceBEq, Int.reduceBNe, Int.reduceAdd, Int.reduceSub, Int.reduceMul]; try refine okTr_and rfl ?_)
  refine cdK_split (fun h => ?_) (fun h => ?_)
  · have hlt : k < l.length := by simpa using h
    have g := u64_get l k hlt
    have hx := hl _ (getD_mem l k hlt)
    have ei := i64_succ k (by omega)
    (simp only [go_sem, Nat.reduceAdd, Nat.reduceMul, Int.reduceToNat, Nat.reduceLeDiff, Int.reduceLE, Int.reduceLT, ↓reduceIte, Int.reduceBEq, Int.reduceBNe, Int.reduceAdd, Int.reduceSub, Int.reduceMul, g, ints_length]; try refine okTr_and rfl ?_)
    (repeat ((with_reducible refine And.intro ?_ ?_); (· exact sd)))
    refine cdK_split (fun h => ?_) (fun h => ?_)
    · have h2 : bat b l k ≤ l.getD k 0 := by simpa using h
      have hno : falls b l = false := falls_not hlt h2
      (simp only [go_sem, Nat.reduceAdd, Nat.reduceMul, Int.reduceToNat, Nat.reduceLeDiff, Int.reduceLE, Int.reduceLT, ↓reduceIte, Int.reduceBEq, Int.reduceBNe, Int.reduceAdd, Int.reduceSub, Int.reduceMul]; try refine okTr_and rfl ?_)
      (refine FinK.untag 4 rfl ?_; simp only [untag1_sl, List.set_cons_zero, List.set_cons_succ])
      ((refine FinK.finB r187 [] ?_ ?_); (· first | with_reducible rfl | (simp [hno, dstR]; done) | rfl); (· simp [resAL, resA1, loadA, oneOr, hno, dstR]))
    · have h2 : l.getD k 0 < bat b l k := by simp at h; simpa using h
      have hs := dsts_succ b l k
      have e1 : IntKind.u64.wrap (bat b l k - l.getD k 0) = bat b l k - l.getD k 0 := IntWalk.u64_in _ (by omega)
      have e2 : IntKind.u64.wrap (bat b l k - l.getD k 0 - 1) = dst b l k := by rw [IntWalk.u64_in _ (by omega), dst_bat]; omega
      (simp only [go_sem, Nat.reduceAdd, Nat.reduceMul, Int.reduceToNat, Nat.reduceLeDiff, Int.reduceLE, Int.reduceLT, ↓reduceIte, Int.reduceBEq, Int.reduceBNe, Int.reduceAdd, Int.reduceSub, Int.reduceMul, e1, e2, ei, ints_snoc, ← hs, ints_length, dsts_len]; try refine okTr_and rfl ?_)
      (repeat ((with_reducible refine And.intro ?_ ?_); (· exact sd)))
      refine ⟨k + 1, ⟨hlt, fun i hi => ?_⟩, by omega, Wk.to (by simp) (by simp [leT, bat_succ])⟩
      rcases Nat.lt_or_ge i k with h3 | h3
      · exact hf i h3
      · obtain rfl : i = k := by omega
        exact h2
  · have ek : k = l.length := by simp at h; omega
    have hyes : falls b l = true := falls_bat.2 fun i hi => hf i (by omega)
    (simp only [go_sem, Nat.reduceAdd, Nat.reduceMul, Int.reduceToNat, Nat.reduceLeDiff, Int.reduceLE, Int.reduceLT, ↓reduceIte, Int.reduceBEq, Int.reduceBNe, Int.reduceAdd, Int.reduceSub, Int.reduceMul]; try refine okTr_and rfl ?_)
    (refine FinK.untag 4 rfl ?_; simp only [untag1_sl, List.set_cons_zero, List.set_cons_succ])
    ((refine FinK.finB r187 [] ?_ ?_); (· first | with_reducible rfl | (simp [hyes, dstR, ek]; done) | rfl); (· simp [resAL, resA1, loadA, oneOr, hyes, dstR, ek]))
theorem delta_Steps (b : Int) (l : List Int) (b0 : 0 ≤ b) (b1 : b < 18446744073709551616) (hl : U64s l) (hn : l.length * 8 ≤ 140737488355328) : Ct Tryz.prog 187 [uA b, slU l] [] (fun _ => .tup [slU (dstR b l), bA (falls b l)]) [] (fun _ => []) := (delta_Steps0 b l b0 b1 hl hn).toCt cl cl
theorem delta_Falls0 (b : Int) (l : List Int) (b0 : 0 ≤ b) (b1 : b < 18446744073709551616) (hl : U64s l) (hn : l.length * 8 ≤ 140737488355328) : Does Tryz.prog 185 [uA b, slU l] [] (bA (falls b l)) [] := by
  refine Does.runA Tryz.func185 b185 n185 Tryz.ntmps185 ?_; simp only [c185, go_sem, Nat.reduceAdd, Nat.reduceMul, Int.reduceToNat, Nat.reduceLeDiff, Int.reduceLE, Int.reduceLT, ↓reduceIte, Int.reduceBEq, Int.reduceBNe, Int.reduceAdd, Int.reduceSub, Int.reduceMul]; try refine okTr_and rfl ?_
  refine CallK.p (delta_Steps b l b0 b1 hl hn) ?_; (simp only [go_sem, Nat.reduceAdd, Nat.reduceMul, Int.reduceToNat, Nat.reduceLeDiff, Int.reduceLE, Int.reduceLT, ↓reduceIte, Int.reduceBEq, Int.reduceBNe, Int.reduceAdd, Int.reduceSub, Int.reduceMul]; try refine okTr_and rfl ?_)
  exact FinK.finA r185 []
theorem delta_Falls (b : Int) (l : List Int) (b0 : 0 ≤ b) (b1 : b < 18446744073709551616) (hl : U64s l) (hn : l.length * 8 ≤ 140737488355328) : Ct Tryz.prog 185 [uA b, slU l] [] (fun _ => bA (falls b l)) [] (fun _ => []) := (delta_Falls0 b l b0 b1 hl hn).toCt cl cl

def WS.fall (s : WS) (b : Int) (l : List Int) : WS := if falls b l = true then (s.put (vb l.length)).puts (dsts b l l.length) else s.fail 3
theorem delta_Put0 (s : WS) (b : Int) (l : List Int) (hs : s.fine) (b0 : 0 ≤ b) (b1 : b < 18446744073709551616) (hl : U64s l) (hn : l.length * 8 ≤ 140737488355328) : Does Tryz.prog 172 [.ref 0 0, uA b, slU l] [wob 1 s, wrow s] (.tup []) [wob 1 (s.fall b l), wrow (s.fall b l)] := by
  have e := len_u64 l (by omega)
  refine Does.runA Tryz.func172 b172 n172 Tryz.ntmps172 ?_; simp only [c172, go_sem, Nat.reduceAdd, Nat.reduceMul, Int.reduceToNat, Nat.reduceLeDiff, Int.reduceLE, Int.reduceLT, ↓reduceIte, Int.reduceBEq, Int.reduceBNe, Int.reduceAdd, Int.reduceSub, Int.reduceMul]; try refine okTr_and rfl ?_
  refine CallK.p (delta_Steps b l b0 b1 hl hn) ?_
  cases hf : falls b l
  · (simp only [go_sem, Nat.reduceAdd, Nat.reduceMul, Int.reduceToNat, Nat.reduceLeDiff, Int.reduceLE, Int.reduceLT, ↓reduceIte, Int.reduceBEq, Int.reduceBNe, Int.reduceAdd, Int.reduceSub, Int.reduceMul, hf]; try refine okTr_and rfl ?_)
    refine CallK.u2 (Writer_Fail s 3 0 1 (by decide)) rfl rfl ?_; (simp only [go_sem, Nat.reduceAdd, Nat.reduceMul, Int.reduceToNat, Nat.reduceLeDiff, Int.reduceLE, Int.reduceLT, ↓reduceIte, Int.reduceBEq, Int.reduceBNe, Int.reduceAdd, Int.reduceSub, Int.reduceMul]; try refine okTr_and rfl ?_)
    ((refine FinK.finB r172 [0, 1] ?_ ?_); (· first | with_reducible rfl | (simp [WS.fall, hf]; done) | rfl); (· simp [resAL, resA1, loadA, oneOr, WS.fall, hf]))
  · have hd : dstR b l = dsts b l l.length := by unfold dstR; rw [if_pos hf]
    (simp only [go_sem, Nat.reduceAdd, Nat.reduceMul, Int.reduceToNat, Nat.reduceLeDiff, Int.reduceLE, Int.reduceLT, ↓reduceIte, Int.reduceBEq, Int.reduceBNe, Int.reduceAdd, Int.reduceSub, Int.reduceMul, hf, hd, ints_length, e]; try refine okTr_and rfl ?_)
    refine CallK.u2 (varint_Put s l.length 0 1 (by decide) (by omega) (by omega) hs.ok (hs.room _)) rfl rfl ?_; (simp only [go_sem, Nat.reduceAdd, Nat.reduceMul, Int.reduceToNat, Nat.reduceLeDiff, Int.reduceLE, Int.reduceLT, ↓reduceIte, Int.reduceBEq, Int.reduceBNe, Int.reduceAdd, Int.reduceSub, Int.reduceMul, ints_length, dsts_len]; try refine okTr_and rfl ?_)
    refine loop_of (α := Nat) (fun k => [.ref 0 0, .any, .any, .any, .any, .any, .any, .any, .any, .any, .any, .any, .any, .any, .any, .any, .any, .any, .any, .any, .any, .any, .any, .any, .any, slU (dsts b l l.length), iA l.length, iA k, .any, .any, .any, .any, .any, .any, .any]) (fun k => [wob 1 ((s.put (vb l.length)).puts (dsts b l k)), wrow ((s.put (vb l.length)).puts (dsts b l k))]) (fun k => k ≤ l.length) (fun k => l.length - k) 0 (by simp) (Wk.to (by simp [WS.puts, dsts]) (by simp [leT])) ?_
    intro k hk
    (simp only [go_sem, Nat.reduceAdd, Nat.reduceMul, Int.reduceToNat, Nat.reduceLeDiff, Int.reduceLE, Int.reduceLT, ↓reduceIte, Int.reduceBEq, Int.reduceBNe, Int.reduceAdd, Int.reduceSub, Int.reduceMul]; try refine okTr_and rfl ?_)
    refine cdK_split (fun h => ?_) (fun h => ?_)
    · have hlt : k < l.length := by simpa using h
      have g : (ints .u64 (dsts b l l.length)).getD (k : Int).toNat .any = uA (dst b l k) := by rw [u64_get _ k (by rw [dsts_len]; exact hlt), dsts_get b l _ k hlt]
      have hx := dst_range b1 hl hf hlt
      have ei := i64_succ k (by omega)
      have hps := puts_snoc (s.put (vb l.length)) (dsts b l k) (dst b l k)
      rw [← dsts_succ] at hps
      (simp only [go_sem, Nat.reduceAdd, Nat.reduceMul, Int.reduceToNat, Nat.reduceLeDiff, Int.reduceLE, Int.reduceLT, ↓reduceIte, Int.reduceBEq, Int.reduceBNe, Int.reduceAdd, Int.reduceSub, Int.reduceMul, g, ints_length, dsts_len]; try refine okTr_and rfl ?_)
      (repeat ((with_reducible refine And.intro ?_ ?_); (· exact sd)))
      refine CallK.u2 (varint_Put _ (dst b l k) 0 1 (by decide) hx.1 hx.2 ((hs.put _).puts _).ok (((hs.put _).puts _).room _)) rfl rfl ?_; (simp only [go_sem, Nat.reduceAdd, Nat.reduceMul, Int.reduceToNat, Nat.reduceLeDiff, Int.reduceLE, Int.reduceLT, ↓reduceIte, Int.reduceBEq, Int.reduceBNe, Int.reduceAdd, Int.reduceSub, Int.reduceMul, ei, ← hps]; try refine okTr_and rfl ?_)
      exact ⟨k + 1, hlt, by omega, Wk.to (by simp) (by simp [leT])⟩
    · have ek : k = l.length := by simp at h; omega
      (simp only [go_sem, Nat.reduceAdd, Nat.reduceMul, Int.reduceToNat, Nat.reduceLeDiff, Int.reduceLE, Int.reduceLT, ↓reduceIte, Int.reduceBEq, Int.reduceBNe, Int.reduceAdd, Int.reduceSub, Int.reduceMul]; try refine okTr_and rfl ?_)
      ((refine FinK.finB r172 [0, 1] ?_ ?_); (· first | with_reducible rfl | (simp [WS.fall, hf, ek]; done) | rfl); (· simp [resAL, resA1, loadA, oneOr, WS.fall, hf, ek]))
theorem delta_Put (s : WS) (b : Int) (l : List Int) (i j : Nat) (h : i ≠ j) (hs : s.fine) (b0 : 0 ≤ b) (b1 : b < 18446744073709551616) (hl : U64s l) (hn : l.length * 8 ≤ 140737488355328) : Ct Tryz.prog 172 [.ref i 0, uA b, slU l] [(i, wob j s), (j, wrow s)] (fun _ => .tup []) [(i, wob j (s.fall b l)), (j, wrow (s.fall b l))] (fun _ => []) := Ct.u2 (delta_Put0 s b l hs b0 b1 hl hn) i j h cl cl cl cl cl (wob_dead _ _) (wrow_dead _) clo
theorem delta_Size0 (b : Int) (l : List Int) (b0 : 0 ≤ b) (b1 : b < 18446744073709551616) (hl : U64s l) (hn : l.length * 10 ≤ 140737488355328) : Does Tryz.prog 181 [uA b, slU l] [] (iA (if falls b l = true then (fallB b l).length else 0)) [] := by
  have e := len_u64 l (by omega)
  have eB : ((fallB b l).length : Int) = (vb l.length).length + (vbs (dsts b l l.length)).length := by simp [fallB]
  have hv := (vb_len l.length).2
  refine Does.runA Tryz.func181 b181 n181 Tryz.ntmps181 ?_; simp only [c181, go_sem, Nat.reduceAdd, Nat.reduceMul, Int.reduceToNat, Nat.reduceLeDiff, Int.reduceLE, Int.reduceLT, ↓reduceIte, Int.reduceBEq, Int.reduceBNe, Int.reduceAdd, Int.reduceSub, Int.reduceMul]; try refine okTr_and rfl ?_
  refine CallK.p (delta_Steps b l b0 b1 hl (by omega)) ?_
  cases hf : falls b l
  · (simp only [go_sem, Nat.reduceAdd, Nat.reduceMul, Int.reduceToNat, Nat.reduceLeDiff, Int.reduceLE, Int.reduceLT, ↓reduceIte, Int.reduceBEq, Int.reduceBNe, Int.reduceAdd, Int.reduceSub, Int.reduceMul, hf]; try refine okTr_and rfl ?_)
    ((refine FinK.finB r181 [] ?_ ?_); (· first | with_reducible rfl | (simp [hf]; done) | rfl); (· simp [resAL, resA1, loadA, oneOr, hf]))
  · have hd : dstR b l = dsts b l l.length := by unfold dstR; rw [if_pos hf]
    (simp only [go_sem, Nat.reduceAdd, Nat.reduceMul, Int.reduceToNat, Nat.reduceLeDiff, Int.reduceLE, Int.reduceLT, ↓reduceIte, Int.reduceBEq, Int.reduceBNe, Int.reduceAdd, Int.reduceSub, Int.reduceMul, hf, hd, ints_length, e]; try refine okTr_and rfl ?_)
    refine CallK.p (varint_Size l.length (by omega) (by omega)) ?_; (simp only [go_sem, Nat.reduceAdd, Nat.reduceMul, Int.reduceToNat, Nat.reduceLeDiff, Int.reduceLE, Int.reduceLT, ↓reduceIte, Int.reduceBEq, Int.reduceBNe, Int.reduceAdd, Int.reduceSub, Int.reduceMul, ints_length, dsts_len]; try refine okTr_and rfl ?_)
    refine loop_of (α := Nat) (fun k => [.any, .any, .any, .any, .any, .any, .any, iA ((vb l.length).length + (vbs (dsts b l k)).length), .any, .any, .any, .any, .any, .any, .any, .any, .any, .any, .any, .any, .any, .any, slU (dsts b l l.length), iA l.length, iA k, .any, .any, .any, .any, .any, .any, .any, .any, .any]) (fun _ => []) (fun k => k ≤ l.length) (fun k => l.length - k) 0 (by simp) (Wk.to (by simp) (by simp [leT, vbs, dsts])) ?_
    intro k hk
    (simp only [go_sem, Nat.reduceAdd, Nat.reduceMul, Int.reduceToNat, Nat.reduceLeDiff, Int.reduceLE, Int.reduceLT, ↓reduceIte, Int.reduceBEq, Int.reduceBNe, Int.reduceAdd, Int.reduceSub, Int.reduceMul]; try refine okTr_and rfl ?_)
    refine cdK_split (fun h => ?_) (fun h => ?_)
    · have hlt : k < l.length := by simpa using h
      have g : (ints .u64 (dsts b l l.length)).getD (k : Int).toNat .any = uA (dst b l k) := by rw [u64_get _ k (by rw [dsts_len]; exact hlt), dsts_get b l _ k hlt]
      have hx := dst_range b1 hl hf hlt
      have ei := i64_succ k (by omega)
      have h1 := vbs_len (dsts b l k)
      rw [dsts_len] at h1
      have h2 := (vb_len (dst b l k)).2
      have es : IntKind.i64.wrap (((vb (l.length : Int)).length : Int) + ((vbs (dsts b l k)).length : Int) + ((vb (dst b l k)).length : Int)) = (vb (l.length : Int)).length + (vbs (dsts b l (k + 1))).length := by
        rw [IntWalk.i64_in _ (by omega), dsts_succ, vbs_snoc, List.length_append]; omega
      (simp only [go_sem, Nat.reduceAdd, Nat.reduceMul, Int.reduceToNat, Nat.reduceLeDiff, Int.reduceLE, Int.reduceLT, ↓reduceIte, Int.reduceBEq, Int.reduceBNe, Int.reduceAdd, Int.reduceSub, Int.reduceMul, g, ints_length, dsts_len]; try refine okTr_and rfl ?_)
      (repeat ((with_reducible refine And.intro ?_ ?_); (· exact sd)))
      refine CallK.p (varint_Size _ hx.1 hx.2) ?_; (simp only [go_sem, Nat.reduceAdd, Nat.reduceMul, Int.reduceToNat, Nat.reduceLeDiff, Int.reduceLE, Int.reduceLT, ↓reduceIte, Int.reduceBEq, Int.reduceBNe, Int.reduceAdd, Int.reduceSub, Int.reduceMul, es, ei]; try refine okTr_and rfl ?_)
      exact ⟨k + 1, hlt, by omega, Wk.to (by simp) (by simp [leT])⟩
    · have ek : k = l.length := by simp at h; omega
      (simp only [go_sem, Nat.reduceAdd, Nat.reduceMul, Int.reduceToNat, Nat.reduceLeDiff, Int.reduceLE, Int.reduceLT, ↓reduceIte, Int.reduceBEq, Int.reduceBNe, Int.reduceAdd, Int.reduceSub, Int.reduceMul]; try refine okTr_and rfl ?_)
      ((refine FinK.finB r181 [] ?_ ?_); (· first | with_reducible rfl | (simp [ek, hf, eB]; done) | rfl); (· simp [resAL, resA1, loadA, oneOr, ek, hf, eB]))
theorem delta_Size (b : Int) (l : List Int) (b0 : 0 ≤ b) (b1 : b < 18446744073709551616) (hl : U64s l) (hn : l.length * 10 ≤ 140737488355328) : Ct Tryz.prog 181 [uA b, slU l] [] (fun _ => iA (if falls b l = true then (fallB b l).length else 0)) [] (fun _ => []) := (delta_Size0 b l b0 b1 hl hn).toCt cl cl
end Go.Proofs.YtnfagphepkeedaaGreat
end
section
namespace Go.Proofs.YtnfagphepkeedaaGreat
open Go.RowKit

theorem fallF_over {b : Int} {s : RS} {acc : List Int} (hx : blw b acc ≤ s.vint.2) : ((fallF b).f s acc).1 = s.vint.1.fail 13 s.at_ ∧ ¬ ((fallF b).f s acc).1.code = 0 := by
  show (if s.vint.1.code = 0 ∧ blw b acc ≤ s.vint.2 then (s.vint.1.fail 13 s.at_, (0 : Int)) else (s.vint.1, blw b acc - 1 - s.vint.2)).1 = _ ∧ _
  by_cases hc : s.vint.1.code = 0
  · refine ⟨by rw [if_pos ⟨hc, hx⟩], ?_⟩
    show ¬ (if s.vint.1.code = 0 ∧ blw b acc ≤ s.vint.2 then (s.vint.1.fail 13 s.at_, (0 : Int)) else (s.vint.1, blw b acc - 1 - s.vint.2)).1.code = 0
    rw [if_pos ⟨hc, hx⟩]; exact fail_not0 _ _ hc (by decide)
  · refine ⟨?_, ?_⟩
    · rw [if_neg fun h => hc h.1]; unfold RS.fail; rw [if_neg hc]
    · show ¬ (if s.vint.1.code = 0 ∧ blw b acc ≤ s.vint.2 then (s.vint.1.fail 13 s.at_, (0 : Int)) else (s.vint.1, blw b acc - 1 - s.vint.2)).1.code = 0
      rw [if_neg fun h => hc h.1]; exact hc
theorem fallF_fits {b : Int} {s : RS} {acc : List Int} (hx : s.vint.2 < blw b acc) : (fallF b).f s acc = (s.vint.1, blw b acc - 1 - s.vint.2) := by
  show (if s.vint.1.code = 0 ∧ blw b acc ≤ s.vint.2 then (s.vint.1.fail 13 s.at_, (0 : Int)) else (s.vint.1, blw b acc - 1 - s.vint.2)) = _
  rw [if_neg (by omega)]
set_option maxRecDepth 100000 in
theorem delta_Read0 (s : RS) (b m : Int) (b0 : 0 ≤ b) (b1 : b < 18446744073709551616) (m1 : m < 9223372036854775808) (hs : ROk s) (hn : s.l.length * 8 ≤ 140737488355328) : Does Tryz.prog 163 [.ref 0 0, uA b, iA m] [rdr s] (slU (s.fall b m).2) [rdr ((s.fall b m).1)] := by
  have hF := fallF_ok b1
  have hir := int_range (s := s) (m := m) hs.bys
  obtain ⟨hi1, hi2⟩ := hs.int m
  unfold RS.fall Fmt.counted
  refine Does.runA Tryz.func163 b163 n163 Tryz.ntmps163 ?_; simp only [c163, go_sem, Nat.reduceAdd, Nat.reduceMul, Int.reduceToNat, Nat.reduceLeDiff, Int.reduceLE, Int.reduceLT, ↓reduceIte, Int.reduceBEq, Int.reduceBNe, Int.reduceAdd, Int.reduceSub, Int.reduceMul]; try refine okTr_and rfl ?_
  refine CallK.u1 (varint_ReadInt s m 0 m1 hs.ok hs.bys) rfl ?_
  generalize hu : (s.int m).1 = u at *
  generalize (s.int m).2 = z at *
  obtain ⟨N, hN⟩ : ∃ N, z.toNat = N := ⟨_, rfl⟩
  have hz : z = (N : Int) := by omega
  subst hz
  rw [Int.toNat_natCast]
  (simp only [go_sem, Nat.reduceAdd, Nat.reduceMul, Int.reduceToNat, Nat.reduceLeDiff, Int.reduceLE, Int.reduceLT, ↓reduceIte, Int.reduceBEq, Int.reduceBNe, Int.reduceAdd, Int.reduceSub, Int.reduceMul]; try refine okTr_and rfl ?_)
  refine loop_of (α := RS × List Int) (fun a => [.ref 0 0, uA (blw b a.2), .any, .any, .any, .any, .any, .sl (.row 1) 1 (ints .u64 a.2), .any, .any, .any, .any, iA N, iA a.2.length, .any, .any, .any, .any, .any, .any, .any, .any, .any, .any, .any, .any, .any, .any, .any, .any, .any, .any, .any, .any, .any, .any, .any, .any]) (fun a => [rdr a.1, .row 1 a.2.length]) ((fallF b).On u N) (fun a => N - a.2.length) (u, []) (Fmt.On.start hi1 N) ((Wk.row 7 1 rfl (.inl rfl) (Nat.le_refl _)).trans (Wk.to (by simp) (by simp [leT, ints, blw]))) ?_
  rintro ⟨t, acc⟩ ho
  have hla := ho.len
  rw [hi2] at hla
  have h1 := ho.ok
  have h6 := ho.res
  have hw := fall_le ho.wf
  simp only at h1 h6 hw
  (simp only [go_sem, Nat.reduceAdd, Nat.reduceMul, Int.reduceToNat, Nat.reduceLeDiff, Int.reduceLE, Int.reduceLT, ↓reduceIte, Int.reduceBEq, Int.reduceBNe, Int.reduceAdd, Int.reduceSub, Int.reduceMul]; try refine okTr_and rfl ?_)
  refine cdK_split (fun h => ?_) (fun h => ?_)
  · have hlt : acc.length < N := by simpa using h
    have ei := i64_succ acc.length (by omega)
    have hx := vint_range (s := t) h1.bys
    (simp only [go_sem, Nat.reduceAdd, Nat.reduceMul, Int.reduceToNat, Nat.reduceLeDiff, Int.reduceLE, Int.reduceLT, ↓reduceIte, Int.reduceBEq, Int.reduceBNe, Int.reduceAdd, Int.reduceSub, Int.reduceMul]; try refine okTr_and rfl ?_)
    refine CallK.r1 (Reader_At t 0) rfl ?_; (simp only [go_sem, Nat.reduceAdd, Nat.reduceMul, Int.reduceToNat, Nat.reduceLeDiff, Int.reduceLE, Int.reduceLT, ↓reduceIte, Int.reduceBEq, Int.reduceBNe, Int.reduceAdd, Int.reduceSub, Int.reduceMul]; try refine okTr_and rfl ?_)
    refine CallK.u1 (varint_Read t 0 h1.ok h1.bys) rfl ?_; (simp only [go_sem, Nat.reduceAdd, Nat.reduceMul, Int.reduceToNat, Nat.reduceLeDiff, Int.reduceLE, Int.reduceLT, ↓reduceIte, Int.reduceBEq, Int.reduceBNe, Int.reduceAdd, Int.reduceSub, Int.reduceMul]; try refine okTr_and rfl ?_)
    by_cases hv : blw b acc ≤ t.vint.2
    · have q : decide (blw b acc ≤ t.vint.2) = true := by simpa using hv
      obtain ⟨o1, o2⟩ := fallF_over (b := b) (s := t) (acc := acc) hv
      have hb := many_bad (F := fallF b) (s := t) hlt o2
      rw [h6, o1] at hb
      rw [o1] at o2
      (simp only [go_sem, Nat.reduceAdd, Nat.reduceMul, Int.reduceToNat, Nat.reduceLeDiff, Int.reduceLE, Int.reduceLT, ↓reduceIte, Int.reduceBEq, Int.reduceBNe, Int.reduceAdd, Int.reduceSub, Int.reduceMul, q]; try refine okTr_and rfl ?_)
      refine CallK.u1 (Reader_Fail _ 13 _ 0) rfl ?_; (simp only [go_sem, Nat.reduceAdd, Nat.reduceMul, Int.reduceToNat, Nat.reduceLeDiff, Int.reduceLE, Int.reduceLT, ↓reduceIte, Int.reduceBEq, Int.reduceBNe, Int.reduceAdd, Int.reduceSub, Int.reduceMul]; try refine okTr_and rfl ?_)
      refine CallK.r1 (Reader_Good _ 0) rfl ?_; (simp only [go_sem, Nat.reduceAdd, Nat.reduceMul, Int.reduceToNat, Nat.reduceLeDiff, Int.reduceLE, Int.reduceLT, ↓reduceIte, Int.reduceBEq, Int.reduceBNe, Int.reduceAdd, Int.reduceSub, Int.reduceMul, good_false o2]; try refine okTr_and rfl ?_)
      (refine FinK.untag 6 rfl ?_; simp only [untag1_sl, List.set_cons_zero, List.set_cons_succ])
      ((refine FinK.finB r163 [0] ?_ ?_); (· first | with_reducible rfl | (simp [hb]; done) | rfl); (· simp [resAL, resA1, loadA, oneOr, hb]))
    · have q : decide (blw b acc ≤ t.vint.2) = false := by simpa using hv
      have hf := fallF_fits (b := b) (s := t) (acc := acc) (by omega)
      (simp only [go_sem, Nat.reduceAdd, Nat.reduceMul, Int.reduceToNat, Nat.reduceLeDiff, Int.reduceLE, Int.reduceLT, ↓reduceIte, Int.reduceBEq, Int.reduceBNe, Int.reduceAdd, Int.reduceSub, Int.reduceMul, q]; try refine okTr_and rfl ?_)
      refine CallK.r1 (Reader_Good _ 0) rfl ?_
      by_cases hc : t.vint.1.code = 0
      · have hnx := ho.next hF hlt (by rw [hf]; exact hc)
        rw [hf] at hnx
        have hl2 := hnx.len
        rw [List.length_append, List.length_singleton, hi2] at hl2
        have e1 : IntKind.u64.wrap (t.vint.2 + 1) = t.vint.2 + 1 := IntWalk.u64_in _ (by omega)
        have e2 : IntKind.u64.wrap (blw b acc - (t.vint.2 + 1)) = blw b acc - 1 - t.vint.2 := by rw [IntWalk.u64_in _ (by omega)]; omega
        (simp only [go_sem, Nat.reduceAdd, Nat.reduceMul, Int.reduceToNat, Nat.reduceLeDiff, Int.reduceLE, Int.reduceLT, ↓reduceIte, Int.reduceBEq, Int.reduceBNe, Int.reduceAdd, Int.reduceSub, Int.reduceMul, good_true hc, e1, e2, ints_snoc, ints_length, ei]; try refine okTr_and rfl ?_)
        (repeat ((with_reducible refine And.intro ?_ ?_); (· exact sd)))
        exact ⟨(t.vint.1, acc ++ [blw b acc - 1 - t.vint.2]), hnx, by simp; omega, Wk.to (by simp) (by simp [leT, blw_snoc])⟩
      · have hb := many_bad (F := fallF b) (s := t) (acc := acc) hlt (by rw [hf]; exact hc)
        rw [h6, hf] at hb
        (simp only [go_sem, Nat.reduceAdd, Nat.reduceMul, Int.reduceToNat, Nat.reduceLeDiff, Int.reduceLE, Int.reduceLT, ↓reduceIte, Int.reduceBEq, Int.reduceBNe, Int.reduceAdd, Int.reduceSub, Int.reduceMul, good_false hc]; try refine okTr_and rfl ?_)
        (refine FinK.untag 6 rfl ?_; simp only [untag1_sl, List.set_cons_zero, List.set_cons_succ])
        ((refine FinK.finB r163 [0] ?_ ?_); (· first | with_reducible rfl | (simp [hb]; done) | rfl); (· simp [resAL, resA1, loadA, oneOr, hb]))
  · have hge : N ≤ acc.length := by simpa using h
    have hb := many_end (F := fallF b) (s := t) hge
    rw [h6] at hb
    (simp only [go_sem, Nat.reduceAdd, Nat.reduceMul, Int.reduceToNat, Nat.reduceLeDiff, Int.reduceLE, Int.reduceLT, ↓reduceIte, Int.reduceBEq, Int.reduceBNe, Int.reduceAdd, Int.reduceSub, Int.reduceMul]; try refine okTr_and rfl ?_)
    (refine FinK.untag 6 rfl ?_; simp only [untag1_sl, List.set_cons_zero, List.set_cons_succ])
    ((refine FinK.finB r163 [0] ?_ ?_); (· first | with_reducible rfl | (simp [hb]; done) | rfl); (· simp [resAL, resA1, loadA, oneOr, hb]))
theorem delta_Read (s : RS) (b m : Int) (i : Nat) (b0 : 0 ≤ b) (b1 : b < 18446744073709551616) (m1 : m < 9223372036854775808) (hs : ROk s) (hn : s.l.length * 8 ≤ 140737488355328) : Ct Tryz.prog 163 [.ref i 0, uA b, iA m] [(i, rdr s)] (fun _ => slU (s.fall b m).2) [(i, rdr ((s.fall b m).1))] (fun _ => []) := Ct.u1 (delta_Read0 s b m b0 b1 m1 hs hn) i cl (fun ρ => rdr_ren ρ _) (fun ρ => rdr_ren ρ _) (rdr_dead _) cl

theorem ref22_Falls0 (b : Int) (l : List Int) (hn : l.length ≤ 140737488355328) : Does Tryz.prog 188 [uA b, slU l] [] (bA (falls b l)) [] := by
  refine Does.runA Tryz.func188 b188 n188 Tryz.ntmps188 ?_; simp only [c188, go_sem, Nat.reduceAdd, Nat.reduceMul, Int.reduceToNat, Nat.reduceLeDiff, Int.reduceLE, Int.reduceLT, ↓reduceIte, Int.reduceBEq, Int.reduceBNe, Int.reduceAdd, Int.reduceSub, Int.reduceMul]; try refine okTr_and rfl ?_
  refine loop_of (α := Nat) (fun k => [uA b, slU l, .any, .any, .any, iA k, .any, .any, .any, .any, .any, .any, .any, .any, .any, .any, .any, .any, .any, .any, .any, .any, .any, .any, .any, .any, .any, .any, .any, .any, .any, .any, .any, .any, .any, .any, .any]) (fun _ => []) (fun k => k ≤ l.length ∧ ∀ i, i < k → l.getD i 0 < bat b l i) (fun k => l.length - k) 0 ⟨by simp, by intro i hi; omega⟩ (Wk.to (by simp) (by simp [leT])) ?_
  rintro k ⟨hk, hf⟩
  (simp only [go_sem, Nat.reduceAdd, Nat.reduceMul, Int.reduceToNat, Nat.reduceLeDiff, Int.reduceLE, Int.reduceLT, ↓reduceIte, Int.reduceBEq, Int.reduceBNe, Int.reduceAdd, Int.reduceSub, Int.reduceMul, ints_length]; try refine okTr_and rfl ?_)
  refine cdK_split (fun h => ?_) (fun h => ?_)
  · have hlt : k < l.length := by simpa using h
    have g := u64_get l k hlt
    have ei := i64_succ k (by omega)
    have key : ∀ w, w = decide (bat b l k ≤ l.getD k 0) → (w = true → falls b l = false) ∧ (w = false → ∀ i, i < k + 1 → l.getD i 0 < bat b l i) := by
      rintro w rfl
      refine ⟨fun hw => falls_not hlt (of_decide_eq_true hw), fun hw i hi => ?_⟩
      rcases Nat.lt_or_ge i k with h3 | h3
      · exact hf i h3
      · obtain rfl : i = k := by omega
        simp at hw; simpa using hw
    obtain ⟨w, hw⟩ : ∃ w, decide (bat b l k ≤ l.getD k 0) = w := ⟨_, rfl⟩
    obtain ⟨k1, k2⟩ := key w hw.symm
    rcases Nat.eq_zero_or_pos k with hz | hz
    · have q1 : ((k : Int) == 0) = true := by simp; omega
      have q2 : decide ((0 : Int) < k) = false := by simp; omega
      have hw' : decide (b ≤ l.getD 0 0) = w := by rw [← hw, hz]; rfl
      have g0 : (ints .u64 l).getD 0 .any = uA (l.getD 0 0) := ints_getD .u64 l 0 (by omega)
      cases hww : w
      · (simp only [go_sem, Nat.reduceAdd, Nat.reduceMul, Int.reduceToNat, Nat.reduceLeDiff, Int.reduceLE, Int.reduceLT, ↓reduceIte, Int.reduceBEq, Int.reduceBNe, Int.reduceAdd, Int.reduceSub, Int.reduceMul, q1, q2, g0, hw', hww, ints_length, ei]; try refine okTr_and rfl ?_)
        (repeat ((with_reducible refine And.intro ?_ ?_); (· exact sd)))
        exact ⟨k + 1, ⟨hlt, k2 hww⟩, by omega, Wk.to (by simp) (by simp [leT])⟩
      · (simp only [go_sem, Nat.reduceAdd, Nat.reduceMul, Int.reduceToNat, Nat.reduceLeDiff, Int.reduceLE, Int.reduceLT, ↓reduceIte, Int.reduceBEq, Int.reduceBNe, Int.reduceAdd, Int.reduceSub, Int.reduceMul, q1, q2, g0, hw', hww, ints_length, ei]; try refine okTr_and rfl ?_)
        (repeat ((with_reducible refine And.intro ?_ ?_); (· exact sd)))
        ((refine FinK.finB r188 [] ?_ ?_); (· first | with_reducible rfl | (simp [k1 hww]; done) | rfl); (· simp [resAL, resA1, loadA, oneOr, k1 hww]))
    · have q1 : ((k : Int) == 0) = false := by simp; omega
      have q2 : decide ((0 : Int) < k) = true := by simp; omega
      have ej : IntKind.i64.wrap ((k : Int) - 1) = ((k - 1 : Nat) : Int) := by rw [IntWalk.i64_in _ (by omega)]; omega
      have g2 := u64_get l (k - 1) (by omega)
      have hw' : decide (l.getD (k - 1) 0 ≤ l.getD k 0) = w := by rw [← hw]; unfold bat; rw [if_neg (by omega)]
      cases hww : w
      · (simp only [go_sem, Nat.reduceAdd, Nat.reduceMul, Int.reduceToNat, Nat.reduceLeDiff, Int.reduceLE, Int.reduceLT, ↓reduceIte, Int.reduceBEq, Int.reduceBNe, Int.reduceAdd, Int.reduceSub, Int.reduceMul, q1, q2, ej, g, g2, hw', hww, ints_length, ei]; try refine okTr_and rfl ?_)
        (repeat ((with_reducible refine And.intro ?_ ?_); (· exact sd)))
        exact ⟨k + 1, ⟨hlt, k2 hww⟩, by omega, Wk.to (by simp) (by simp [leT])⟩
      · (simp only [go_sem, Nat.reduceAdd, Nat.reduceMul, Int.reduceToNat, Nat.reduceLeDiff, Int.reduceLE, Int.reduceLT, ↓reduceIte, Int.reduceBEq, Int.reduceBNe, Int.reduceAdd, Int.reduceSub, Int.reduceMul, q1, q2, ej, g, g2, hw', hww, ints_length, ei]; try refine okTr_and rfl ?_)
        (repeat ((with_reducible refine And.intro ?_ ?_); (· exact sd)))
        ((refine FinK.finB r188 [] ?_ ?_); (· first | with_reducible rfl | (simp [k1 hww]; done) | rfl); (· simp [resAL, resA1, loadA, oneOr, k1 hww]))
  · have hyes : falls b l = true := falls_bat.2 fun i hi => hf i (by simp at h; omega)
    (simp only [go_sem, Nat.reduceAdd, Nat.reduceMul, Int.reduceToNat, Nat.reduceLeDiff, Int.reduceLE, Int.reduceLT, ↓reduceIte, Int.reduceBEq, Int.reduceBNe, Int.reduceAdd, Int.reduceSub, Int.reduceMul]; try refine okTr_and rfl ?_)
    ((refine FinK.finB r188 [] ?_ ?_); (· first | with_reducible rfl | (simp [hyes]; done) | rfl); (· simp [resAL, resA1, loadA, oneOr, hyes]))
theorem ref22_Falls (b : Int) (l : List Int) (hn : l.length ≤ 140737488355328) : Ct Tryz.prog 188 [uA b, slU l] [] (fun _ => bA (falls b l)) [] (fun _ => []) := (ref22_Falls0 b l hn).toCt cl cl
end Go.Proofs.YtnfagphepkeedaaGreat
end
end
section
namespace Go.Proofs.YtnfagphepkeedaaGreat
open Go.RowKit

/-- A link, links. -/
abbrev lkA (x : Lk) : AV := .agg [uA x.st, slU x.bk]
def lks (l : List Lk) : List AV := l.map lkA
abbrev slL (l : List Lk) : AV := .sl .none 2 (lks l)
@[simp] theorem ren_lks (ρ : Nat → Nat) (l : List Lk) : (lks l).map (fun x => x.ren ρ) = lks l := by
  have h : ∀ (k : IntKind) (m : List Int), (ints k m).map (fun x => x.ren ρ) = ints k m := ren_ints ρ
  simp [lks, ixs_z]
@[simp] theorem ren_ints_l (ρ : Nat → Nat) (k : IntKind) (l : List Int) : (ints k l).map (fun x => x.ren ρ) = ints k l := ren_ints ρ k l
theorem lks_length (l : List Lk) : (lks l).length = l.length := by simp [lks]
theorem lks_nil : lks [] = [] := (rfl)
theorem lks_snoc (l : List Lk) (x : Lk) : lks l ++ [lkA x] = lks (l ++ [x]) := by simp [lks]
theorem lks_get (l : List Lk) (k : Nat) (h : k < l.length) : (lks l).getD k .any = lkA (l.getD k lk0) := by simp [lks, h]
theorem lk_take (l : List Lk) (k : Nat) (h : k < l.length) : l.take (k + 1) = l.take k ++ [l.getD k lk0] := by
  rw [List.take_succ_eq_append_getElem h]; simp [h]
theorem Lks.take {l : List Lk} (h : Lks l) (k : Nat) : Lks (l.take k) := fun x hx => h x (List.mem_of_mem_take hx)
theorem i64_pred (k : Nat) (h0 : 0 < k) (h : k < 140737488355328) : IntKind.i64.wrap ((k : Int) - 1) = ((k - 1 : Nat) : Int) := by rw [IntWalk.i64_in _ (by omega)]; omega
theorem link_stream0 (x : Lk) : Does Tryz.prog 183 [lkA x] [] (uA x.st) [] := by
  refine Does.runA Tryz.func183 b183 n183 Tryz.ntmps183 ?_; simp only [c183, go_sem, Nat.reduceAdd, Nat.reduceMul, Int.reduceToNat, Nat.reduceLeDiff, Int.reduceLE, Int.reduceLT, ↓reduceIte, Int.reduceBEq, Int.reduceBNe, Int.reduceAdd, Int.reduceSub, Int.reduceMul]; try refine okTr_and rfl ?_
  exact FinK.finA r183 []
theorem link_stream (x : Lk) : Ct Tryz.prog 183 [lkA x] [] (fun _ => uA x.st) [] (fun _ => []) := (link_stream0 x).toCt cl cl
set_option maxRecDepth 100000 in
theorem link_rises0 (l : List Lk) (hn : l.length ≤ 1000000) : Does Tryz.prog 182 [slL l, .fn 183 [] []] [] (bA (risesL l)) [] := by
  refine Does.runA Tryz.func182 b182 n182 Tryz.ntmps182 ?_; simp only [c182, go_sem, Nat.reduceAdd, Nat.reduceMul, Int.reduceToNat, Nat.reduceLeDiff, Int.reduceLE, Int.reduceLT, ↓reduceIte, Int.reduceBEq, Int.reduceBNe, Int.reduceAdd, Int.reduceSub, Int.reduceMul, lks_length]; try refine okTr_and rfl ?_
  refine loop_of (α := Nat) (fun k => [slL l, .fn 183 [] [], .any, .any, .any, .any, .any, iA l.length, iA k, .any, .any, .any, .any, .any, .any, .any, .any, .any, .any, .any, .any, .any, .any, .any, .any, .any, .any, .any, .any, .any]) (fun _ => []) (fun k => k ≤ l.length ∧ ∀ i, i < k → 0 < i → (l.getD (i - 1) lk0).st < (l.getD i lk0).st) (fun k => l.length - k) 0 ⟨by simp, fun i hi => by omega⟩ (Wk.to (by simp) (by simp [leT])) ?_
  rintro k ⟨hk, hall⟩
  (simp only [go_sem, Nat.reduceAdd, Nat.reduceMul, Int.reduceToNat, Nat.reduceLeDiff, Int.reduceLE, Int.reduceLT, ↓reduceIte, Int.reduceBEq, Int.reduceBNe, Int.reduceAdd, Int.reduceSub, Int.reduceMul]; try refine okTr_and rfl ?_)
  by_cases hlt : k < l.length
  · have q1 : decide ((k : Int) < (l.length : Int)) = true := by simp; omega
    have ek := i64_succ k (by omega)
    have g := lks_get l k hlt
    by_cases h0 : 0 < k
    · have q2 : decide ((0 : Int) < (k : Int)) = true := by simp; omega
      have ep := i64_pred k h0 (by omega)
      have g2 := lks_get l (k - 1) (by omega)
      (simp only [go_sem, Nat.reduceAdd, Nat.reduceMul, Int.reduceToNat, Nat.reduceLeDiff, Int.reduceLE, Int.reduceLT, ↓reduceIte, Int.reduceBEq, Int.reduceBNe, Int.reduceAdd, Int.reduceSub, Int.reduceMul, q1, q2, g, lks_length, Int.toNat_natCast]; try refine okTr_and rfl ?_)
      (repeat ((with_reducible refine And.intro ?_ ?_); (· exact sd)))
      refine CallK.p (link_stream (l.getD k lk0)) ?_; (simp only [go_sem, Nat.reduceAdd, Nat.reduceMul, Int.reduceToNat, Nat.reduceLeDiff, Int.reduceLE, Int.reduceLT, ↓reduceIte, Int.reduceBEq, Int.reduceBNe, Int.reduceAdd, Int.reduceSub, Int.reduceMul, ep, g2, lks_length, Int.toNat_natCast]; try refine okTr_and rfl ?_)
      (repeat ((with_reducible refine And.intro ?_ ?_); (· exact sd)))
      refine CallK.p (link_stream (l.getD (k - 1) lk0)) ?_
      by_cases hs : (l.getD k lk0).st ≤ (l.getD (k - 1) lk0).st
      · have q3 : decide ((l.getD k lk0).st ≤ (l.getD (k - 1) lk0).st) = true := by simpa using hs
        have e : risesL l = false := by
          cases hr : risesL l with
          | false => rfl
          | true => have := risesL_iff.1 hr k hlt h0; omega
        (simp only [go_sem, Nat.reduceAdd, Nat.reduceMul, Int.reduceToNat, Nat.reduceLeDiff, Int.reduceLE, Int.reduceLT, ↓reduceIte, Int.reduceBEq, Int.reduceBNe, Int.reduceAdd, Int.reduceSub, Int.reduceMul, q3]; try refine okTr_and rfl ?_)
        ((refine FinK.finB r182 [] ?_ ?_); (· first | with_reducible rfl | (simp [e]; done) | rfl); (· simp [resAL, resA1, loadA, oneOr, e]))
      · have q3 : decide ((l.getD k lk0).st ≤ (l.getD (k - 1) lk0).st) = false := by simpa using hs
        (simp only [go_sem, Nat.reduceAdd, Nat.reduceMul, Int.reduceToNat, Nat.reduceLeDiff, Int.reduceLE, Int.reduceLT, ↓reduceIte, Int.reduceBEq, Int.reduceBNe, Int.reduceAdd, Int.reduceSub, Int.reduceMul, q3, ek]; try refine okTr_and rfl ?_)
        exact ⟨k + 1, ⟨hlt, fun i hi h1 => by
          rcases Nat.lt_or_ge i k with h | h
          · exact hall i h h1
          · obtain rfl : i = k := by omega
            omega⟩, by omega, Wk.to (by simp) (by simp [leT])⟩
    · have q2 : decide ((0 : Int) < (k : Int)) = false := by simp; omega
      (simp only [go_sem, Nat.reduceAdd, Nat.reduceMul, Int.reduceToNat, Nat.reduceLeDiff, Int.reduceLE, Int.reduceLT, ↓reduceIte, Int.reduceBEq, Int.reduceBNe, Int.reduceAdd, Int.reduceSub, Int.reduceMul, q1, q2, ek]; try refine okTr_and rfl ?_)
      exact ⟨k + 1, ⟨hlt, fun i hi h1 => by omega⟩, by omega, Wk.to (by simp) (by simp [leT])⟩
  · have q1 : decide ((k : Int) < (l.length : Int)) = false := by simp; omega
    have e : risesL l = true := risesL_iff.2 fun i hi h0 => hall i (by omega) h0
    (simp only [go_sem, Nat.reduceAdd, Nat.reduceMul, Int.reduceToNat, Nat.reduceLeDiff, Int.reduceLE, Int.reduceLT, ↓reduceIte, Int.reduceBEq, Int.reduceBNe, Int.reduceAdd, Int.reduceSub, Int.reduceMul, q1]; try refine okTr_and rfl ?_)
    ((refine FinK.finB r182 [] ?_ ?_); (· first | with_reducible rfl | (simp [e]; done) | rfl); (· simp [resAL, resA1, loadA, oneOr, e]))
theorem link_rises (l : List Lk) (hn : l.length ≤ 1000000) : Ct Tryz.prog 182 [slL l, .fn 183 [] []] [] (fun _ => bA (risesL l)) [] (fun _ => []) := (link_rises0 l hn).toCt cl cl
theorem fidx_no {α : Type} {p : α → Bool} {l : List α} (h : ∀ x ∈ l, p x = false) : l.findIdx p = l.length := List.findIdx_eq_length.2 h
/-- The first of some links that a function with one thing in mind takes. -/
theorem link_place0 (f : FuncId) (o : AObj) (ok : Lk → Bool) (ho : ∀ ρ, o.ren ρ = o) (hd : o ≠ .dead) (l : List Lk) (hf : ∀ x ∈ l, ∀ i, Ct Tryz.prog f [lkA x, .ref i 0] [(i, o)] (fun _ => bA (ok x)) [] (fun _ => [])) (hn : l.length ≤ 1000000) :
    Does Tryz.prog 186 [slL l, .fn f [] [.ref 0 0]] [o] (iA (l.findIdx ok)) [o] := by
  refine Does.runA Tryz.func186 b186 n186 Tryz.ntmps186 ?_; simp only [c186, go_sem, Nat.reduceAdd, Nat.reduceMul, Int.reduceToNat, Nat.reduceLeDiff, Int.reduceLE, Int.reduceLT, ↓reduceIte, Int.reduceBEq, Int.reduceBNe, Int.reduceAdd, Int.reduceSub, Int.reduceMul, lks_length]; try refine okTr_and rfl ?_
  refine loop_of (α := Nat) (fun k => [slL l, .fn f [] [.ref 0 0], .any, .any, .any, .any, .any, slL l, iA l.length, iA k, .any, .any, .any, .any, .any, .any, .any, .any, .any, .any, .any]) (fun _ => [o]) (fun k => k ≤ l.length ∧ ∀ i (h : i < l.length), i < k → ok l[i] = false) (fun k => l.length - k) 0 ⟨by simp, fun i _ hi => by omega⟩ (Wk.to (by simp) (by simp [leT])) ?_
  rintro k ⟨hk, hall⟩
  (simp only [go_sem, Nat.reduceAdd, Nat.reduceMul, Int.reduceToNat, Nat.reduceLeDiff, Int.reduceLE, Int.reduceLT, ↓reduceIte, Int.reduceBEq, Int.reduceBNe, Int.reduceAdd, Int.reduceSub, Int.reduceMul]; try refine okTr_and rfl ?_)
  by_cases hlt : k < l.length
  · have q1 : decide ((k : Int) < (l.length : Int)) = true := by simp; omega
    have ek := i64_succ k (by omega)
    have g := lks_get l k hlt
    have eg : l.getD k lk0 = l[k] := by simp [hlt]
    have hm := lk_mem l k hlt
    have hfx := hf _ hm 0
    rw [eg] at g hfx
    (simp only [go_sem, Nat.reduceAdd, Nat.reduceMul, Int.reduceToNat, Nat.reduceLeDiff, Int.reduceLE, Int.reduceLT, ↓reduceIte, Int.reduceBEq, Int.reduceBNe, Int.reduceAdd, Int.reduceSub, Int.reduceMul, q1, g, lks_length, Int.toNat_natCast]; try refine okTr_and rfl ?_)
    (repeat ((with_reducible refine And.intro ?_ ?_); (· exact sd)))
    refine CallK.r1 (hfx) rfl ?_
    by_cases hs : ok l[k] = true
    · have e : l.findIdx ok = k := by
        rw [List.findIdx_eq hlt]
        exact ⟨hs, fun j hj => hall j (by omega) hj⟩
      (simp only [go_sem, Nat.reduceAdd, Nat.reduceMul, Int.reduceToNat, Nat.reduceLeDiff, Int.reduceLE, Int.reduceLT, ↓reduceIte, Int.reduceBEq, Int.reduceBNe, Int.reduceAdd, Int.reduceSub, Int.reduceMul, hs]; try refine okTr_and rfl ?_)
      ((refine FinK.finB r186 [0] ?_ ?_); (· first | with_reducible rfl | (simp [e, ho]; done) | rfl); (· simp [resAL, resA1, loadA, oneOr, e, ho]))
    · have hs' : ok l[k] = false := by simpa using hs
      (simp only [go_sem, Nat.reduceAdd, Nat.reduceMul, Int.reduceToNat, Nat.reduceLeDiff, Int.reduceLE, Int.reduceLT, ↓reduceIte, Int.reduceBEq, Int.reduceBNe, Int.reduceAdd, Int.reduceSub, Int.reduceMul, hs', ek]; try refine okTr_and rfl ?_)
      exact ⟨k + 1, ⟨hlt, fun i h hi => by
        rcases Nat.lt_or_ge i k with h1 | h1
        · exact hall i h h1
        · obtain rfl : i = k := by omega
          exact hs'⟩, by omega, Wk.sel [0] (by simp) rfl (by simp) rfl (by simp [ho]) (by simp [selT, ixs_z])⟩
  · have q1 : decide ((k : Int) < (l.length : Int)) = false := by simp; omega
    have e : l.findIdx ok = l.length := fidx_no fun x hx => by
      obtain ⟨i, hi, rfl⟩ := List.getElem_of_mem hx
      exact hall i hi (by omega)
    (simp only [go_sem, Nat.reduceAdd, Nat.reduceMul, Int.reduceToNat, Nat.reduceLeDiff, Int.reduceLE, Int.reduceLT, ↓reduceIte, Int.reduceBEq, Int.reduceBNe, Int.reduceAdd, Int.reduceSub, Int.reduceMul, q1, lks_length]; try refine okTr_and rfl ?_)
    ((refine FinK.finB r186 [0] ?_ ?_); (· first | with_reducible rfl | (simp [e, ho]; done) | rfl); (· simp [resAL, resA1, loadA, oneOr, e, ho]))
theorem link_place (f : FuncId) (o : AObj) (ok : Lk → Bool) (ho : ∀ ρ, o.ren ρ = o) (hd : o ≠ .dead) (l : List Lk) (hf : ∀ x ∈ l, ∀ i, Ct Tryz.prog f [lkA x, .ref i 0] [(i, o)] (fun _ => bA (ok x)) [] (fun _ => [])) (hn : l.length ≤ 1000000) (i : Nat) :
    Ct Tryz.prog 186 [slL l, .fn f [] [.ref i 0]] [(i, o)] (fun _ => iA (l.findIdx ok)) [] (fun _ => []) := Ct.r1 (link_place0 f o ok ho hd l hf hn) i cl ho hd clo
abbrev oneO (x : Int) : AObj := .cells [uA x]
theorem link_Right10 (pos : Int) (x : Lk) (hx : x.ok) (p0 : 0 ≤ pos) (p1 : pos < 18446744073709551616) (hn : x.bk.length ≤ 1000000) : Does Tryz.prog 184 [lkA x, .ref 0 0] [oneO pos] (bA (!goodL pos x)) [oneO pos] := by
  refine Does.runA Tryz.func184 b184 n184 Tryz.ntmps184 ?_; simp only [c184, go_sem, Nat.reduceAdd, Nat.reduceMul, Int.reduceToNat, Nat.reduceLeDiff, Int.reduceLE, Int.reduceLT, ↓reduceIte, Int.reduceBEq, Int.reduceBNe, Int.reduceAdd, Int.reduceSub, Int.reduceMul, ints_length]; try refine okTr_and rfl ?_
  by_cases h4 : x.bk.length ≤ 4
  · have q1 : decide (4 < (x.bk.length : Int)) = false := by simp; omega
    have e : goodL pos x = falls pos x.bk := by unfold goodL; rw [decide_eq_true h4]; simp
    (simp only [go_sem, Nat.reduceAdd, Nat.reduceMul, Int.reduceToNat, Nat.reduceLeDiff, Int.reduceLE, Int.reduceLT, ↓reduceIte, Int.reduceBEq, Int.reduceBNe, Int.reduceAdd, Int.reduceSub, Int.reduceMul, q1]; try refine okTr_and rfl ?_)
    refine CallK.p (delta_Falls pos x.bk p0 p1 hx.b (by omega)) ?_; (simp only [go_sem, Nat.reduceAdd, Nat.reduceMul, Int.reduceToNat, Nat.reduceLeDiff, Int.reduceLE, Int.reduceLT, ↓reduceIte, Int.reduceBEq, Int.reduceBNe, Int.reduceAdd, Int.reduceSub, Int.reduceMul]; try refine okTr_and rfl ?_)
    ((refine FinK.finB r184 [0] ?_ ?_); (· first | with_reducible rfl | (simp [e]; done) | rfl); (· simp [resAL, resA1, loadA, oneOr, e]))
  · have q1 : decide (4 < (x.bk.length : Int)) = true := by simp; omega
    have e : goodL pos x = false := by unfold goodL; rw [decide_eq_false h4]; simp
    (simp only [go_sem, Nat.reduceAdd, Nat.reduceMul, Int.reduceToNat, Nat.reduceLeDiff, Int.reduceLE, Int.reduceLT, ↓reduceIte, Int.reduceBEq, Int.reduceBNe, Int.reduceAdd, Int.reduceSub, Int.reduceMul, q1]; try refine okTr_and rfl ?_)
    ((refine FinK.finB r184 [0] ?_ ?_); (· first | with_reducible rfl | (simp [e]; done) | rfl); (· simp [resAL, resA1, loadA, oneOr, e]))
theorem link_Right1 (pos : Int) (x : Lk) (hx : x.ok) (p0 : 0 ≤ pos) (p1 : pos < 18446744073709551616) (hn : x.bk.length ≤ 1000000) (i : Nat) : Ct Tryz.prog 184 [lkA x, .ref i 0] [(i, oneO pos)] (fun _ => bA (!goodL pos x)) [] (fun _ => []) :=
  Ct.r1 (link_Right10 pos x hx p0 p1 hn) i cl (fun ρ => by simp [ixs_z]) (by simp) clo
def Smalls (l : List Lk) : Prop := l.length ≤ 1000000 ∧ ∀ x ∈ l, x.bk.length ≤ 1000000
theorem link_Right0 (pos : Int) (l : List Lk) (hl : Lks l) (hm : Smalls l) (p0 : 0 ≤ pos) (p1 : pos < 18446744073709551616) : Does Tryz.prog 170 [uA pos, slL l] [] (bA (rightL pos l)) [] := by
  obtain ⟨hn, hb⟩ := hm
  refine Does.runA Tryz.func170 b170 n170 Tryz.ntmps170 ?_; simp only [c170, go_sem, Nat.reduceAdd, Nat.reduceMul, Int.reduceToNat, Nat.reduceLeDiff, Int.reduceLE, Int.reduceLT, ↓reduceIte, Int.reduceBEq, Int.reduceBNe, Int.reduceAdd, Int.reduceSub, Int.reduceMul, lks_length]; try refine okTr_and rfl ?_
  by_cases h16 : l.length ≤ 16
  · have q1 : decide (16 < (l.length : Int)) = false := by simp; omega
    (simp only [go_sem, Nat.reduceAdd, Nat.reduceMul, Int.reduceToNat, Nat.reduceLeDiff, Int.reduceLE, Int.reduceLT, ↓reduceIte, Int.reduceBEq, Int.reduceBNe, Int.reduceAdd, Int.reduceSub, Int.reduceMul, q1]; try refine okTr_and rfl ?_)
    refine CallK.p (link_rises l hn) ?_
    by_cases hr : risesL l = true
    · have he : rightL pos l = ((l.findIdx fun x => !goodL pos x : Nat) == l.length) := by
        rw [Bool.eq_iff_iff, rightL_iff, beq_iff_eq, List.findIdx_eq_length]
        simp [h16, hr]
      have he2 : (((l.findIdx fun x => !goodL pos x : Nat) : Int) == (l.length : Int)) = rightL pos l := by
        rw [he, Bool.eq_iff_iff, beq_iff_eq, beq_iff_eq]; omega
      (simp only [go_sem, Nat.reduceAdd, Nat.reduceMul, Int.reduceToNat, Nat.reduceLeDiff, Int.reduceLE, Int.reduceLT, ↓reduceIte, Int.reduceBEq, Int.reduceBNe, Int.reduceAdd, Int.reduceSub, Int.reduceMul, hr]; try refine okTr_and rfl ?_)
      refine CallK.r1 (link_place 184 (oneO pos) (fun x => !goodL pos x) (fun ρ => by simp [ixs_z]) (by simp) l (fun x hx i => link_Right1 pos x (hl x hx) p0 p1 (hb x hx) i) hn _) rfl ?_; (simp only [go_sem, Nat.reduceAdd, Nat.reduceMul, Int.reduceToNat, Nat.reduceLeDiff, Int.reduceLE, Int.reduceLT, ↓reduceIte, Int.reduceBEq, Int.reduceBNe, Int.reduceAdd, Int.reduceSub, Int.reduceMul, lks_length, he2]; try refine okTr_and rfl ?_)
      exact FinK.finA r170 []
    · have hr' : risesL l = false := by simpa using hr
      have he : rightL pos l = false := by simp [rightL, hr']
      (simp only [go_sem, Nat.reduceAdd, Nat.reduceMul, Int.reduceToNat, Nat.reduceLeDiff, Int.reduceLE, Int.reduceLT, ↓reduceIte, Int.reduceBEq, Int.reduceBNe, Int.reduceAdd, Int.reduceSub, Int.reduceMul, hr']; try refine okTr_and rfl ?_)
      ((refine FinK.finB r170 [] ?_ ?_); (· first | with_reducible rfl | (simp [he]; done) | rfl); (· simp [resAL, resA1, loadA, oneOr, he]))
  · have q1 : decide (16 < (l.length : Int)) = true := by simp; omega
    have he : rightL pos l = false := by simp [rightL, h16]
    (simp only [go_sem, Nat.reduceAdd, Nat.reduceMul, Int.reduceToNat, Nat.reduceLeDiff, Int.reduceLE, Int.reduceLT, ↓reduceIte, Int.reduceBEq, Int.reduceBNe, Int.reduceAdd, Int.reduceSub, Int.reduceMul, q1]; try refine okTr_and rfl ?_)
    ((refine FinK.finB r170 [] ?_ ?_); (· first | with_reducible rfl | (simp [he]; done) | rfl); (· simp [resAL, resA1, loadA, oneOr, he]))
theorem link_Right (pos : Int) (l : List Lk) (hl : Lks l) (hm : Smalls l) (p0 : 0 ≤ pos) (p1 : pos < 18446744073709551616) : Ct Tryz.prog 170 [uA pos, slL l] [] (fun _ => bA (rightL pos l)) [] (fun _ => []) := (link_Right0 pos l hl hm p0 p1).toCt cl cl
/-- By how much a stream is above the one ahead. -/
def stpL (l : List Lk) (i : Nat) : Int := (l.getD i lk0).st - lst (l.take i) - 1
def stpsL (l : List Lk) (k : Nat) : List Int := (List.range k).map (stpL l)
theorem stpsL_succ (l : List Lk) (k : Nat) : stpsL l (k + 1) = stpsL l k ++ [stpL l k] := by simp [stpsL, List.range_succ]
theorem stpsL_len (l : List Lk) (k : Nat) : (stpsL l k).length = k := by simp [stpsL]
theorem stpsL_get (l : List Lk) (n k : Nat) (h : k < n) : (stpsL l n).getD k 0 = stpL l k := by simp [stpsL, h]
theorem stpL_range {l : List Lk} (hl : Lks l) (hr : risesL l = true) {i : Nat} (hi : i < l.length) : 0 ≤ stpL l i ∧ stpL l i < 18446744073709551616 := by
  have ho := hl _ (lk_mem l i hi)
  have h0 := ho.s0
  have h1 := ho.s1
  unfold stpL
  rw [lst_take l i (by omega)]
  split
  · omega
  · rename_i hz
    have := risesL_iff.1 hr i hi (by omega)
    have hp := (hl _ (lk_mem l (i - 1) (by omega))).s0
    omega
set_option maxRecDepth 100000 in
theorem link_steps0 (l : List Lk) (hl : Lks l) (hr : risesL l = true) (hn : l.length ≤ 1000000) : Does Tryz.prog 171 [slL l] [] (slU (stpsL l l.length)) [] := by
  refine Does.runA Tryz.func171 b171 n171 Tryz.ntmps171 ?_; simp only [c171, go_sem, Nat.reduceAdd, Nat.reduceMul, Int.reduceToNat, Nat.reduceLeDiff, Int.reduceLE, Int.reduceLT, ↓reduceIte, Int.reduceBEq, Int.reduceBNe, Int.reduceAdd, Int.reduceSub, Int.reduceMul, lks_length]; try refine okTr_and rfl ?_
  refine loop_of (α := Nat) (fun k => [slL l, .any, .any, .sl (.row 0) 1 (ints .u64 (stpsL l k)), .any, .any, .any, slL l, iA l.length, iA k, .any, .any, .any, .any, .any, .any, .any, .any, .any, .any, .any, .any, .any, .any, .any, .any, .any, .any, .any, .any, .any, .any, .any]) (fun k => [.row 1 k]) (fun k => k ≤ l.length) (fun k => l.length - k) 0 (by simp) ((Wk.row 3 1 rfl (.inl rfl) (by decide)).trans (Wk.to (by simp) (by simp [leT, ints, stpsL]))) ?_
  intro k hk
  have hkl := stpsL_len l k
  (simp only [go_sem, Nat.reduceAdd, Nat.reduceMul, Int.reduceToNat, Nat.reduceLeDiff, Int.reduceLE, Int.reduceLT, ↓reduceIte, Int.reduceBEq, Int.reduceBNe, Int.reduceAdd, Int.reduceSub, Int.reduceMul]; try refine okTr_and rfl ?_)
  by_cases hlt : k < l.length
  · have q1 : decide ((k : Int) < (l.length : Int)) = true := by simp; omega
    have ek := i64_succ k (by omega)
    have g := lks_get l k hlt
    have ho := hl _ (lk_mem l k hlt)
    have hs := stpL_range hl hr hlt
    have hss := stpsL_succ l k
    have est : stpL l k = if k = 0 then (l.getD k lk0).st else (l.getD k lk0).st - (l.getD (k - 1) lk0).st - 1 := by
      unfold stpL
      rw [lst_take l k (by omega)]
      split
      · omega
      · rfl
    by_cases h0 : 0 < k
    · have q2 : decide ((0 : Int) < (k : Int)) = true := by simp; omega
      rw [if_neg (by omega)] at est
      have ep := i64_pred k h0 (by omega)
      have g2 := lks_get l (k - 1) (by omega)
      have hp := hl _ (lk_mem l (k - 1) (by omega))
      have hp0 := hp.s0
      have ho1 := ho.s1
      have w1 : IntKind.u64.wrap ((l.getD (k - 1) lk0).st + 1) = (l.getD (k - 1) lk0).st + 1 := IntWalk.u64_in _ (by omega)
      have w2 : IntKind.u64.wrap ((l.getD k lk0).st - ((l.getD (k - 1) lk0).st + 1)) = stpL l k := by rw [IntWalk.u64_in _ (by omega)]; omega
      (simp only [go_sem, Nat.reduceAdd, Nat.reduceMul, Int.reduceToNat, Nat.reduceLeDiff, Int.reduceLE, Int.reduceLT, ↓reduceIte, Int.reduceBEq, Int.reduceBNe, Int.reduceAdd, Int.reduceSub, Int.reduceMul, q1, q2, g, g2, ep, w1, w2, lks_length, Int.toNat_natCast]; try refine okTr_and rfl ?_)
      (repeat ((with_reducible refine And.intro ?_ ?_); (· exact sd)))
      (simp only [go_sem, Nat.reduceAdd, Nat.reduceMul, Int.reduceToNat, Nat.reduceLeDiff, Int.reduceLE, Int.reduceLT, ↓reduceIte, Int.reduceBEq, Int.reduceBNe, Int.reduceAdd, Int.reduceSub, Int.reduceMul, ints_snoc, ← hss, ints_length, hkl, ek]; try refine okTr_and rfl ?_)
      (repeat ((with_reducible refine And.intro ?_ ?_); (· exact sd)))
      exact ⟨k + 1, by omega, by omega, Wk.sel [0] (by simp) rfl (by simp) rfl (by simp [ixs_z]) (by simp [selT, ixs_z])⟩
    · have q2 : decide ((0 : Int) < (k : Int)) = false := by simp; omega
      rw [if_pos (by omega)] at est
      (simp only [go_sem, Nat.reduceAdd, Nat.reduceMul, Int.reduceToNat, Nat.reduceLeDiff, Int.reduceLE, Int.reduceLT, ↓reduceIte, Int.reduceBEq, Int.reduceBNe, Int.reduceAdd, Int.reduceSub, Int.reduceMul, q1, q2, g, ← est, ints_snoc, ← hss, ints_length, hkl, ek, lks_length, Int.toNat_natCast]; try refine okTr_and rfl ?_)
      (repeat ((with_reducible refine And.intro ?_ ?_); (· exact sd)))
      exact ⟨k + 1, by omega, by omega, Wk.sel [0] (by simp) rfl (by simp) rfl (by simp [ixs_z]) (by simp [selT, ixs_z])⟩
  · have q1 : decide ((k : Int) < (l.length : Int)) = false := by simp; omega
    have ek : k = l.length := by omega
    (simp only [go_sem, Nat.reduceAdd, Nat.reduceMul, Int.reduceToNat, Nat.reduceLeDiff, Int.reduceLE, Int.reduceLT, ↓reduceIte, Int.reduceBEq, Int.reduceBNe, Int.reduceAdd, Int.reduceSub, Int.reduceMul, q1]; try refine okTr_and rfl ?_)
    (refine FinK.untag 2 rfl ?_; simp only [untag1_sl, List.set_cons_zero, List.set_cons_succ])
    ((refine FinK.finB r171 [] ?_ ?_); (· first | with_reducible rfl | (simp [ek]; done) | rfl); (· simp [resAL, resA1, loadA, oneOr, ek]))
theorem link_steps (l : List Lk) (hl : Lks l) (hr : risesL l = true) (hn : l.length ≤ 1000000) : Ct Tryz.prog 171 [slL l] [] (fun _ => slU (stpsL l l.length)) [] (fun _ => []) := (link_steps0 l hl hr hn).toCt cl cl
/-- A writer behind the first k links. -/
def WS.lkN (s : WS) (pos : Int) (l : List Lk) : Nat → WS
  | 0 => s.put (vb l.length)
  | k + 1 => ((s.lkN pos l k).put (vb (stpL l k))).fall pos (l.getD k lk0).bk
def WS.links (s : WS) (pos : Int) (l : List Lk) : WS := if rightL pos l = true then s.lkN pos l l.length else s.fail 3
theorem WS.fine.fall {s : WS} (h : s.fine) (b : Int) (l : List Int) : (s.fall b l).fine := by
  unfold WS.fall
  split
  · exact (h.put _).puts _
  · exact h.fail 3
theorem WS.fine.lkN {s : WS} (h : s.fine) (pos : Int) (l : List Lk) : ∀ k, (s.lkN pos l k).fine := by
  intro k
  induction k with
  | zero => exact h.put _
  | succ k ih => exact (ih.put _).fall _ _
theorem WS.fine.links {s : WS} (h : s.fine) (pos : Int) (l : List Lk) : (s.links pos l).fine := by
  unfold WS.links; split
  · exact h.lkN pos l _
  · exact h.fail 3
theorem put_fit {s : WS} {m : List Int} (h : s.code = 0) (hm : (s.l.length : Int) + m.length ≤ s.most) : s.put m = ⟨s.most, s.l ++ m, 0⟩ := by
  rw [WS.put_ok h hm]; cases s; simp at h; simp [h]
theorem fall_fit {s : WS} {b : Int} {l : List Int} (h : s.code = 0) (hf : falls b l = true) (hm : (s.l.length : Int) + (fallB b l).length ≤ s.most) : s.fall b l = ⟨s.most, s.l ++ fallB b l, 0⟩ := by
  unfold fallB at hm
  rw [List.length_append] at hm
  unfold WS.fall
  rw [if_pos hf, put_fit h (by omega), puts_fit rfl _ (by simp only [List.length_append]; omega)]
  simp [fallB]
theorem encs_take {pos : Int} {l : List Lk} {k : Nat} (h : k < l.length) : encs (linkF pos).enc [] (l.take (k + 1)) = encs (linkF pos).enc [] (l.take k) ++ (vb (stpL l k) ++ fallB pos (l.getD k lk0).bk) := by
  rw [lk_take l k h, encs_snoc]
  rfl
theorem encs_le {pos : Int} {l : List Lk} : ∀ k, k ≤ l.length → (encs (linkF pos).enc [] (l.take k)).length ≤ (encs (linkF pos).enc [] l).length := by
  intro k hk
  have gen : ∀ n, k + n = l.length → (encs (linkF pos).enc [] (l.take k)).length ≤ (encs (linkF pos).enc [] l).length := by
    intro n
    induction n generalizing k with
    | zero => intro h; rw [List.take_of_length_le (by omega)]; exact Nat.le_refl _
    | succ n ih =>
      intro h
      have h1 := ih (k + 1) (by omega) (by omega)
      rw [encs_take (by omega), List.length_append] at h1
      omega
  exact gen (l.length - k) (by omega)
/-- Well-formed links, room enough. -/
theorem lkN_fit {s : WS} {pos : Int} {l : List Lk} (hr : rightL pos l = true) (h : s.code = 0) (hm : (s.l.length : Int) + (linksB pos l).length ≤ s.most) : ∀ k, k ≤ l.length → s.lkN pos l k = ⟨s.most, s.l ++ (vb l.length ++ encs (linkF pos).enc [] (l.take k)), 0⟩ := by
  obtain ⟨r1, r2, r3⟩ := rightL_iff.1 hr
  unfold linksB at hm
  rw [List.length_append] at hm
  intro k
  induction k with
  | zero => intro _; unfold WS.lkN; rw [put_fit h (by omega)]; simp [encs]
  | succ k ih =>
    intro hk
    have hle := encs_le (pos := pos) (l := l) (k + 1) hk
    have he := encs_take (pos := pos) (l := l) (k := k) (by omega)
    have hel := congrArg List.length he
    simp only [List.length_append] at hel
    unfold WS.lkN
    rw [ih (by omega), put_fit rfl (by simp only [List.length_append]; omega), fall_fit rfl (goodL_iff.1 (r3 _ (lk_mem l k (by omega)))).2 (by simp only [List.length_append]; omega), he]
    simp only [List.append_assoc]
theorem links_fit {s : WS} {pos : Int} {l : List Lk} (hr : rightL pos l = true) (h : s.code = 0) (hm : (s.l.length : Int) + (linksB pos l).length ≤ s.most) : s.links pos l = ⟨s.most, s.l ++ linksB pos l, 0⟩ := by
  unfold WS.links
  rw [if_pos hr, lkN_fit hr h hm _ (Nat.le_refl _), List.take_length]; rfl
theorem fallB_len {b : Int} {l : List Int} (h : l.length ≤ 4) : (fallB b l).length ≤ 50 := by
  unfold fallB
  rw [List.length_append]
  have h1 := (vb_len (l.length : Int)).2
  have h2 := vbs_len (dsts b l l.length)
  rw [dsts_len] at h2
  omega
theorem linksB_len {pos : Int} {l : List Lk} (hr : rightL pos l = true) : (linksB pos l).length ≤ 970 := by
  obtain ⟨r1, r2, r3⟩ := rightL_iff.1 hr
  have hv := (vb_len (l.length : Int)).2
  have key : ∀ k, k ≤ l.length → (encs (linkF pos).enc [] (l.take k)).length ≤ 60 * k := by
    intro k
    induction k with
    | zero => intro _; simp [encs]
    | succ k ih =>
      intro hk
      have h1 := ih (by omega)
      rw [encs_take (by omega), List.length_append, List.length_append]
      have h2 := (vb_len (stpL l k)).2
      have h3 := fallB_len (b := pos) (goodL_iff.1 (r3 _ (lk_mem l k (by omega)))).1
      omega
  have := key l.length (Nat.le_refl _)
  rw [List.take_length] at this
  unfold linksB
  rw [List.length_append]; omega
set_option maxRecDepth 100000 in
theorem link_Put0 (s : WS) (pos : Int) (l : List Lk) (hs : s.fine) (hl : Lks l) (hm : Smalls l) (p0 : 0 ≤ pos) (p1 : pos < 18446744073709551616) : Does Tryz.prog 138 [.ref 0 0, uA pos, slL l] [wob 1 s, wrow s] (.tup []) [wob 1 (s.links pos l), wrow (s.links pos l)] := by
  have hn := hm.1
  have e := len_u64 l (by omega)
  refine Does.runA Tryz.func138 b138 n138 Tryz.ntmps138 ?_; simp only [c138, go_sem, Nat.reduceAdd, Nat.reduceMul, Int.reduceToNat, Nat.reduceLeDiff, Int.reduceLE, Int.reduceLT, ↓reduceIte, Int.reduceBEq, Int.reduceBNe, Int.reduceAdd, Int.reduceSub, Int.reduceMul]; try refine okTr_and rfl ?_
  refine CallK.p (link_Right pos l hl hm p0 p1) ?_
  by_cases hr : rightL pos l = true
  · obtain ⟨r1, r2, r3⟩ := rightL_iff.1 hr
    (simp only [go_sem, Nat.reduceAdd, Nat.reduceMul, Int.reduceToNat, Nat.reduceLeDiff, Int.reduceLE, Int.reduceLT, ↓reduceIte, Int.reduceBEq, Int.reduceBNe, Int.reduceAdd, Int.reduceSub, Int.reduceMul, hr, lks_length, e]; try refine okTr_and rfl ?_)
    refine CallK.u2 (varint_Put s l.length 0 1 (by decide) (by omega) (by omega) hs.ok (hs.room _)) rfl rfl ?_; (simp only [go_sem, Nat.reduceAdd, Nat.reduceMul, Int.reduceToNat, Nat.reduceLeDiff, Int.reduceLE, Int.reduceLT, ↓reduceIte, Int.reduceBEq, Int.reduceBNe, Int.reduceAdd, Int.reduceSub, Int.reduceMul]; try refine okTr_and rfl ?_)
    refine CallK.p (link_steps l hl r2 hn) ?_; (simp only [go_sem, Nat.reduceAdd, Nat.reduceMul, Int.reduceToNat, Nat.reduceLeDiff, Int.reduceLE, Int.reduceLT, ↓reduceIte, Int.reduceBEq, Int.reduceBNe, Int.reduceAdd, Int.reduceSub, Int.reduceMul, ints_length, stpsL_len]; try refine okTr_and rfl ?_)
    refine loop_of (α := Nat) (fun k => [.ref 0 0, uA pos, slL l, .any, .any, .any, .any, .any, .any, .any, .any, .any, .any, .any, .any, .any, .any, .any, .any, .any, slU (stpsL l l.length), iA l.length, iA k, .any, .any, .any, .any, .any, .any, .any, .any, .any, .any, .any, .any, .any, .any, .any, .any]) (fun k => [wob 1 (s.lkN pos l k), wrow (s.lkN pos l k)]) (fun k => k ≤ l.length) (fun k => l.length - k) 0 (by simp) (Wk.to (by rfl) (by simp [leT])) ?_
    intro k hk
    have hf := hs.lkN pos l k
    (simp only [go_sem, Nat.reduceAdd, Nat.reduceMul, Int.reduceToNat, Nat.reduceLeDiff, Int.reduceLE, Int.reduceLT, ↓reduceIte, Int.reduceBEq, Int.reduceBNe, Int.reduceAdd, Int.reduceSub, Int.reduceMul]; try refine okTr_and rfl ?_)
    by_cases hlt : k < l.length
    · have q1 : decide ((k : Int) < (l.length : Int)) = true := by simp; omega
      have ek := i64_succ k (by omega)
      have g := lks_get l k hlt
      have g2 := u64_get (stpsL l l.length) k (by rw [stpsL_len]; exact hlt)
      rw [stpsL_get l _ k hlt, Int.toNat_natCast] at g2
      have hx := stpL_range hl r2 hlt
      have ho := hl _ (lk_mem l k hlt)
      have hsm := hm.2 _ (lk_mem l k hlt)
      (simp only [go_sem, Nat.reduceAdd, Nat.reduceMul, Int.reduceToNat, Nat.reduceLeDiff, Int.reduceLE, Int.reduceLT, ↓reduceIte, Int.reduceBEq, Int.reduceBNe, Int.reduceAdd, Int.reduceSub, Int.reduceMul, q1, g2, ints_length, stpsL_len, Int.toNat_natCast]; try refine okTr_and rfl ?_)
      (repeat ((with_reducible refine And.intro ?_ ?_); (· exact sd)))
      refine CallK.u2 (varint_Put (s.lkN pos l k) (stpL l k) 0 1 (by decide) hx.1 hx.2 hf.ok (hf.room _)) rfl rfl ?_; (simp only [go_sem, Nat.reduceAdd, Nat.reduceMul, Int.reduceToNat, Nat.reduceLeDiff, Int.reduceLE, Int.reduceLT, ↓reduceIte, Int.reduceBEq, Int.reduceBNe, Int.reduceAdd, Int.reduceSub, Int.reduceMul, g, lks_length, Int.toNat_natCast]; try refine okTr_and rfl ?_)
      (repeat ((with_reducible refine And.intro ?_ ?_); (· exact sd)))
      refine CallK.u2 (delta_Put ((s.lkN pos l k).put (vb (stpL l k))) pos (l.getD k lk0).bk 0 1 (by decide) (hf.put _) p0 p1 ho.b (by omega)) rfl rfl ?_; (simp only [go_sem, Nat.reduceAdd, Nat.reduceMul, Int.reduceToNat, Nat.reduceLeDiff, Int.reduceLE, Int.reduceLT, ↓reduceIte, Int.reduceBEq, Int.reduceBNe, Int.reduceAdd, Int.reduceSub, Int.reduceMul, ek]; try refine okTr_and rfl ?_)
      exact ⟨k + 1, by omega, by omega, Wk.to (by rfl) (by simp [leT])⟩
    · have q1 : decide ((k : Int) < (l.length : Int)) = false := by simp; omega
      have ek : k = l.length := by omega
      subst ek
      (simp only [go_sem, Nat.reduceAdd, Nat.reduceMul, Int.reduceToNat, Nat.reduceLeDiff, Int.reduceLE, Int.reduceLT, ↓reduceIte, Int.reduceBEq, Int.reduceBNe, Int.reduceAdd, Int.reduceSub, Int.reduceMul, q1]; try refine okTr_and rfl ?_)
      ((refine FinK.finB r138 [0, 1] ?_ ?_); (· first | with_reducible rfl | (simp [WS.links, hr]; done) | rfl); (· simp [resAL, resA1, loadA, oneOr, WS.links, hr]))
  · have hr' : rightL pos l = false := by simpa using hr
    (simp only [go_sem, Nat.reduceAdd, Nat.reduceMul, Int.reduceToNat, Nat.reduceLeDiff, Int.reduceLE, Int.reduceLT, ↓reduceIte, Int.reduceBEq, Int.reduceBNe, Int.reduceAdd, Int.reduceSub, Int.reduceMul, hr']; try refine okTr_and rfl ?_)
    refine CallK.u2 (Writer_Fail s 3 0 1 (by decide)) rfl rfl ?_; (simp only [go_sem, Nat.reduceAdd, Nat.reduceMul, Int.reduceToNat, Nat.reduceLeDiff, Int.reduceLE, Int.reduceLT, ↓reduceIte, Int.reduceBEq, Int.reduceBNe, Int.reduceAdd, Int.reduceSub, Int.reduceMul]; try refine okTr_and rfl ?_)
    ((refine FinK.finB r138 [0, 1] ?_ ?_); (· first | with_reducible rfl | (simp [WS.links, hr']; done) | rfl); (· simp [resAL, resA1, loadA, oneOr, WS.links, hr']))
theorem link_Put (s : WS) (pos : Int) (l : List Lk) (i j : Nat) (h : i ≠ j) (hs : s.fine) (hl : Lks l) (hm : Smalls l) (p0 : 0 ≤ pos) (p1 : pos < 18446744073709551616) : Ct Tryz.prog 138 [.ref i 0, uA pos, slL l] [(i, wob j s), (j, wrow s)] (fun _ => .tup []) [(i, wob j (s.links pos l)), (j, wrow (s.links pos l))] (fun _ => []) := Ct.u2 (link_Put0 s pos l hs hl hm p0 p1) i j h cl cl cl cl cl (wob_dead _ _) (wrow_dead _) clo
def sizeL (pos : Int) (l : List Lk) : Int := if rightL pos l = true then (linksB pos l).length else 0
set_option maxRecDepth 100000 in
theorem link_Size0 (pos : Int) (l : List Lk) (hl : Lks l) (hm : Smalls l) (p0 : 0 ≤ pos) (p1 : pos < 18446744073709551616) : Does Tryz.prog 168 [uA pos, slL l] [] (iA (sizeL pos l)) [] := by
  have hn := hm.1
  have e := len_u64 l (by omega)
  refine Does.runA Tryz.func168 b168 n168 Tryz.ntmps168 ?_; simp only [c168, go_sem, Nat.reduceAdd, Nat.reduceMul, Int.reduceToNat, Nat.reduceLeDiff, Int.reduceLE, Int.reduceLT, ↓reduceIte, Int.reduceBEq, Int.reduceBNe, Int.reduceAdd, Int.reduceSub, Int.reduceMul]; try refine okTr_and rfl ?_
  refine CallK.p (link_Right pos l hl hm p0 p1) ?_
  by_cases hr : rightL pos l = true
  · obtain ⟨r1, r2, r3⟩ := rightL_iff.1 hr
    have hbl := linksB_len hr
    unfold linksB at hbl
    rw [List.length_append] at hbl
    (simp only [go_sem, Nat.reduceAdd, Nat.reduceMul, Int.reduceToNat, Nat.reduceLeDiff, Int.reduceLE, Int.reduceLT, ↓reduceIte, Int.reduceBEq, Int.reduceBNe, Int.reduceAdd, Int.reduceSub, Int.reduceMul, hr, lks_length, e]; try refine okTr_and rfl ?_)
    refine CallK.p (varint_Size l.length (by omega) (by omega)) ?_; (simp only [go_sem, Nat.reduceAdd, Nat.reduceMul, Int.reduceToNat, Nat.reduceLeDiff, Int.reduceLE, Int.reduceLT, ↓reduceIte, Int.reduceBEq, Int.reduceBNe, Int.reduceAdd, Int.reduceSub, Int.reduceMul]; try refine okTr_and rfl ?_)
    refine CallK.p (link_steps l hl r2 hn) ?_; (simp only [go_sem, Nat.reduceAdd, Nat.reduceMul, Int.reduceToNat, Nat.reduceLeDiff, Int.reduceLE, Int.reduceLT, ↓reduceIte, Int.reduceBEq, Int.reduceBNe, Int.reduceAdd, Int.reduceSub, Int.reduceMul, ints_length, stpsL_len]; try refine okTr_and rfl ?_)
    refine loop_of (α := Nat) (fun k => [uA pos, slL l, .any, .any, .any, iA ((vb l.length ++ encs (linkF pos).enc [] (l.take k)).length : Nat), .any, .any, .any, .any, .any, .any, .any, .any, .any, .any, .any, slU (stpsL l l.length), iA l.length, iA k, .any, .any, .any, .any, .any, .any, .any, .any, .any, .any, .any, .any, .any, .any, .any, .any, .any, .any]) (fun _ => []) (fun k => k ≤ l.length) (fun k => l.length - k) 0 (by simp) (Wk.to (by simp) (by simp [leT, encs])) ?_
    intro k hk
    (simp only [go_sem, Nat.reduceAdd, Nat.reduceMul, Int.reduceToNat, Nat.reduceLeDiff, Int.reduceLE, Int.reduceLT, ↓reduceIte, Int.reduceBEq, Int.reduceBNe, Int.reduceAdd, Int.reduceSub, Int.reduceMul]; try refine okTr_and rfl ?_)
    by_cases hlt : k < l.length
    · have q1 : decide ((k : Int) < (l.length : Int)) = true := by simp; omega
      have ek := i64_succ k (by omega)
      have g := lks_get l k hlt
      have g2 := u64_get (stpsL l l.length) k (by rw [stpsL_len]; exact hlt)
      rw [stpsL_get l _ k hlt, Int.toNat_natCast] at g2
      have hx := stpL_range hl r2 hlt
      have ho := hl _ (lk_mem l k hlt)
      have hsm := hm.2 _ (lk_mem l k hlt)
      obtain ⟨gg1, gg2⟩ := goodL_iff.1 (r3 _ (lk_mem l k hlt))
      have he := encs_take (pos := pos) (l := l) (k := k) hlt
      have hel := congrArg List.length he
      simp only [List.length_append] at hel
      have hle := encs_le (pos := pos) (l := l) (k + 1) hlt
      have hv := vb_len (stpL l k)
      have w1 : IntKind.i64.wrap (((vb (stpL l k)).length : Int) + (fallB pos (l.getD k lk0).bk).length) = (vb (stpL l k)).length + (fallB pos (l.getD k lk0).bk).length := IntWalk.i64_in _ (by omega)
      have w2 : IntKind.i64.wrap (((vb (l.length : Int) ++ encs (linkF pos).enc [] (l.take k)).length : Int) + (((vb (stpL l k)).length : Int) + (fallB pos (l.getD k lk0).bk).length)) = ((vb (l.length : Int) ++ encs (linkF pos).enc [] (l.take (k + 1))).length : Nat) := by
        rw [List.length_append, List.length_append, hel, IntWalk.i64_in _ (by omega)]; omega
      (simp only [go_sem, Nat.reduceAdd, Nat.reduceMul, Int.reduceToNat, Nat.reduceLeDiff, Int.reduceLE, Int.reduceLT, ↓reduceIte, Int.reduceBEq, Int.reduceBNe, Int.reduceAdd, Int.reduceSub, Int.reduceMul, q1, g2, ints_length, stpsL_len, Int.toNat_natCast]; try refine okTr_and rfl ?_)
      (repeat ((with_reducible refine And.intro ?_ ?_); (· exact sd)))
      refine CallK.p (varint_Size (stpL l k) hx.1 hx.2) ?_; (simp only [go_sem, Nat.reduceAdd, Nat.reduceMul, Int.reduceToNat, Nat.reduceLeDiff, Int.reduceLE, Int.reduceLT, ↓reduceIte, Int.reduceBEq, Int.reduceBNe, Int.reduceAdd, Int.reduceSub, Int.reduceMul, g, lks_length, Int.toNat_natCast]; try refine okTr_and rfl ?_)
      (repeat ((with_reducible refine And.intro ?_ ?_); (· exact sd)))
      refine CallK.p (delta_Size pos (l.getD k lk0).bk p0 p1 ho.b (by omega)) ?_; (simp only [go_sem, Nat.reduceAdd, Nat.reduceMul, Int.reduceToNat, Nat.reduceLeDiff, Int.reduceLE, Int.reduceLT, ↓reduceIte, Int.reduceBEq, Int.reduceBNe, Int.reduceAdd, Int.reduceSub, Int.reduceMul, gg2, w1, w2, ek]; try refine okTr_and rfl ?_)
      (repeat ((with_reducible refine And.intro ?_ ?_); (· exact sd)))
      exact ⟨k + 1, by omega, by omega, Wk.to (by rfl) (by simp [leT])⟩
    · have q1 : decide ((k : Int) < (l.length : Int)) = false := by simp; omega
      have ek : k = l.length := by omega
      subst ek
      have he : sizeL pos l = ((vb (l.length : Int) ++ encs (linkF pos).enc [] (l.take l.length)).length : Nat) := by unfold sizeL linksB; rw [if_pos hr, List.take_length]
      (simp only [go_sem, Nat.reduceAdd, Nat.reduceMul, Int.reduceToNat, Nat.reduceLeDiff, Int.reduceLE, Int.reduceLT, ↓reduceIte, Int.reduceBEq, Int.reduceBNe, Int.reduceAdd, Int.reduceSub, Int.reduceMul, q1]; try refine okTr_and rfl ?_)
      ((refine FinK.finB r168 [] ?_ ?_); (· first | with_reducible rfl | (simp [he]; done) | rfl); (· simp [resAL, resA1, loadA, oneOr, he]))
  · have hr' : rightL pos l = false := by simpa using hr
    have he : sizeL pos l = 0 := by unfold sizeL; rw [if_neg hr]
    (simp only [go_sem, Nat.reduceAdd, Nat.reduceMul, Int.reduceToNat, Nat.reduceLeDiff, Int.reduceLE, Int.reduceLT, ↓reduceIte, Int.reduceBEq, Int.reduceBNe, Int.reduceAdd, Int.reduceSub, Int.reduceMul, hr']; try refine okTr_and rfl ?_)
    ((refine FinK.finB r168 [] ?_ ?_); (· first | with_reducible rfl | (simp [he]; done) | rfl); (· simp [resAL, resA1, loadA, oneOr, he]))
theorem link_Size (pos : Int) (l : List Lk) (hl : Lks l) (hm : Smalls l) (p0 : 0 ≤ pos) (p1 : pos < 18446744073709551616) : Ct Tryz.prog 168 [uA pos, slL l] [] (fun _ => iA (sizeL pos l)) [] (fun _ => []) := (link_Size0 pos l hl hm p0 p1).toCt cl cl
end Go.Proofs.YtnfagphepkeedaaGreat
end
section
namespace Go.Proofs.YtnfagphepkeedaaGreat
open Go.RowKit

theorem xor_max {x : Int} (h0 : 0 ≤ x) (h1 : x < 18446744073709551616) : bitsI .xor .u64 (if IntKind.u64.signed then -1 else IntKind.u64.max) x = 18446744073709551615 - x := by
  have h := xor_u64_1 h0 h1
  have e : bitsI .xor .u64 (if IntKind.u64.signed then -1 else IntKind.u64.max) x = bitsI .xor .u64 x 18446744073709551615 := by
    show IntKind.u64.wrap ((BitVec.ofInt 64 18446744073709551615 ^^^ BitVec.ofInt 64 x).toNat : Int) = IntKind.u64.wrap ((BitVec.ofInt 64 x ^^^ BitVec.ofInt 64 18446744073709551615).toNat : Int)
    rw [BitVec.xor_comm]
  rw [e, h]
theorem lkHead_nil {s : RS} (h : ROk s) : s.lkHead [] = s.vint.1 := by
  have hv := vint_range (s := s) h.bys
  unfold RS.lkHead; rw [lst_nil, if_neg (by omega)]
theorem lkHead_keep {s : RS} (h : ROk s) (acc : List Lk) : ROk (s.lkHead acc) ∧ (s.lkHead acc).l = s.l := by
  obtain ⟨a, b⟩ := h.vint
  unfold RS.lkHead; split
  · exact ⟨a.fail _ _, by rw [fail_l]; exact b⟩
  · exact ⟨a, b⟩
theorem lkHead_over {s : RS} {acc : List Lk} (h : 18446744073709551616 ≤ lst acc + 1 + s.vint.2) : s.vint.1.fail 13 s.at_ = s.lkHead acc := by
  unfold RS.lkHead
  by_cases hc : s.vint.1.code = 0
  · rw [if_pos ⟨hc, h⟩]
  · rw [if_neg fun x => hc x.1]; unfold RS.fail; rw [if_neg hc]
theorem lkHead_fits {s : RS} {acc : List Lk} (h : ¬ 18446744073709551616 ≤ lst acc + 1 + s.vint.2) : s.lkHead acc = s.vint.1 := by
  unfold RS.lkHead; rw [if_neg fun x => h x.2]
theorem linkF_f (pos : Int) (s : RS) (acc : List Lk) : (linkF pos).f s acc = (((s.lkHead acc).fall pos 4).1, ⟨lst acc + 1 + s.vint.2, ((s.lkHead acc).fall pos 4).2⟩) := rfl
theorem fall_code {s : RS} {b m : Int} (h : ROk s) (b0 : 0 ≤ b) (b1 : b < 18446744073709551616) (hc : (s.fall b m).1.code = 0) : s.code = 0 := (fall_is h b0 b1 hc).1
set_option maxHeartbeats 1000000 in
set_option maxRecDepth 100000 in
theorem link_Read0 (s : RS) (pos : Int) (p0 : 0 ≤ pos) (p1 : pos < 18446744073709551616) (hs : ROk s) (hn : s.l.length * 32 ≤ 100000000000000) : Does Tryz.prog 123 [.ref 0 0, uA pos] [rdr s] (slL (s.links pos).2) [rdr ((s.links pos).1)] := by
  have hF := linkF_ok p0 p1
  have hir := int_range (s := s) (m := 16) hs.bys
  obtain ⟨hi1, hi2⟩ := hs.int 16
  unfold RS.links Fmt.counted
  refine Does.runA Tryz.func123 b123 n123 Tryz.ntmps123 ?_; simp only [c123, go_sem, Nat.reduceAdd, Nat.reduceMul, Int.reduceToNat, Nat.reduceLeDiff, Int.reduceLE, Int.reduceLT, ↓reduceIte, Int.reduceBEq, Int.reduceBNe, Int.reduceAdd, Int.reduceSub, Int.reduceMul]; try refine okTr_and rfl ?_
  refine CallK.u1 (varint_ReadInt s 16 0 (by decide) hs.ok hs.bys) rfl ?_
  generalize hu : (s.int 16).1 = u at *
  generalize (s.int 16).2 = z at *
  obtain ⟨N, hN⟩ : ∃ N, z.toNat = N := ⟨_, rfl⟩
  have hz : z = (N : Int) := by omega
  subst hz
  rw [Int.toNat_natCast]
  (simp only [go_sem, Nat.reduceAdd, Nat.reduceMul, Int.reduceToNat, Nat.reduceLeDiff, Int.reduceLE, Int.reduceLT, ↓reduceIte, Int.reduceBEq, Int.reduceBNe, Int.reduceAdd, Int.reduceSub, Int.reduceMul]; try refine okTr_and rfl ?_)
  refine loop_of (α := RS × List Lk) (fun a => [.ref 0 0, uA pos, .any, .any, .any, .sl (.row 1) 2 (lks a.2), .any, .any, .any, .any, .any, iA N, iA a.2.length, .any, .any, .any, .any, .any, .any, .any, .any, .any, .any, .any, .any, .any, .any, .any, .any, .any, .any, .any, .any, .any, .any, .any, .any, .any, .any, .any, .any, .any, .any, .any, .any, .any, .any, .any, .any, .any, .any, .any, .any, .any, .any]) (fun a => [rdr a.1, .row 2 a.2.length]) ((linkF pos).On u N) (fun a => N - a.2.length) (u, []) (Fmt.On.start hi1 N) ((Wk.row 5 2 rfl (.inr rfl) (by decide)).trans (Wk.to (by simp) (by simp [leT, lks]))) ?_
  rintro ⟨t, acc⟩ ho
  have hla := ho.len
  rw [hi2] at hla
  have h1 := ho.ok
  have h2 := ho.l
  have h6 := ho.res
  have hwf := ho.wf
  simp only at h1 h2 h6 hwf
  have hg := lst_ge hwf
  have htl : t.l.length * 32 ≤ 100000000000000 := by rw [h2, hi2]; exact hn
  (simp only [go_sem, Nat.reduceAdd, Nat.reduceMul, Int.reduceToNat, Nat.reduceLeDiff, Int.reduceLE, Int.reduceLT, ↓reduceIte, Int.reduceBEq, Int.reduceBNe, Int.reduceAdd, Int.reduceSub, Int.reduceMul]; try refine okTr_and rfl ?_)
  by_cases hlt : acc.length < N
  · have q0 : decide ((acc.length : Int) < (N : Int)) = true := by simp; omega
    have ei := i64_succ acc.length (by omega)
    have hx := vint_range (s := t) h1.bys
    obtain ⟨hk1, hk2⟩ := lkHead_keep h1 acc
    obtain ⟨hv1, hv2⟩ := h1.vint
    have hff := linkF_f pos t acc
    have hkl : (t.lkHead acc).l.length * 8 ≤ 140737488355328 := by rw [hk2]; omega
    have hnx : ((t.lkHead acc).fall pos 4).1.code = 0 → (linkF pos).On u N (((t.lkHead acc).fall pos 4).1, acc ++ [⟨lst acc + 1 + t.vint.2, ((t.lkHead acc).fall pos 4).2⟩]) := fun hc => by
      have := ho.next hF hlt (by rw [hff]; exact hc)
      rw [hff] at this; exact this
    have hnb : ¬ ((t.lkHead acc).fall pos 4).1.code = 0 → (linkF pos).many N u [] = (((t.lkHead acc).fall pos 4).1, []) := fun hc => by
      have := many_bad (F := linkF pos) (s := t) hlt (by rw [hff]; exact hc)
      rw [h6, hff] at this; exact this
    have hst : ((t.lkHead acc).fall pos 4).1.code = 0 → lst acc + 1 + t.vint.2 < 18446744073709551616 := fun hc => by
      rcases Int.lt_or_le (lst acc + 1 + t.vint.2) 18446744073709551616 with h | h
      · exact h
      · have hh := fall_code hk1 p0 p1 hc
        unfold RS.lkHead at hh
        by_cases hc0 : t.vint.1.code = 0
        · rw [if_pos ⟨hc0, h⟩] at hh; exact absurd hh (fail_not0 _ _ hc0 (by decide))
        · rw [if_neg fun x => hc0 x.1] at hh; exact absurd hh hc0
    (simp only [go_sem, Nat.reduceAdd, Nat.reduceMul, Int.reduceToNat, Nat.reduceLeDiff, Int.reduceLE, Int.reduceLT, ↓reduceIte, Int.reduceBEq, Int.reduceBNe, Int.reduceAdd, Int.reduceSub, Int.reduceMul, q0]; try refine okTr_and rfl ?_)
    refine CallK.r1 (Reader_At t 0) rfl ?_; (simp only [go_sem, Nat.reduceAdd, Nat.reduceMul, Int.reduceToNat, Nat.reduceLeDiff, Int.reduceLE, Int.reduceLT, ↓reduceIte, Int.reduceBEq, Int.reduceBNe, Int.reduceAdd, Int.reduceSub, Int.reduceMul]; try refine okTr_and rfl ?_)
    refine CallK.u1 (varint_Read t 0 h1.ok h1.bys) rfl ?_; (simp only [go_sem, Nat.reduceAdd, Nat.reduceMul, Int.reduceToNat, Nat.reduceLeDiff, Int.reduceLE, Int.reduceLT, ↓reduceIte, Int.reduceBEq, Int.reduceBNe, Int.reduceAdd, Int.reduceSub, Int.reduceMul]; try refine okTr_and rfl ?_)
    by_cases h0 : 0 < acc.length
    · have q1 : decide ((0 : Int) < (acc.length : Int)) = true := by simp; omega
      have ep := i64_pred acc.length h0 (by omega)
      have g := lks_get acc (acc.length - 1) (by omega)
      have hlg := lst_get acc h0
      obtain ⟨w, hw⟩ : ∃ w, (acc.getD (acc.length - 1) lk0).st = w := ⟨_, rfl⟩
      rw [hw] at hlg
      have g' : (lks acc).getD (acc.length - 1) .any = .agg [uA w, slU (acc.getD (acc.length - 1) lk0).bk] := by rw [g, ← hw]
      have hw0 : 0 ≤ w ∧ w < 18446744073709551616 := by
        have hlw := wf_get (acc.length - 1) (by omega) hwf
        rw [List.nil_append] at hlw
        have hg2 := lst_ge (wf_take (acc.length - 1) hwf)
        have e : acc[acc.length - 1] = acc.getD (acc.length - 1) lk0 := by simp [show acc.length - 1 < acc.length by omega]
        have hl1 : lst (acc.take (acc.length - 1)) < acc[acc.length - 1].st := hlw.1
        have hl2 : acc[acc.length - 1].st < 18446744073709551616 := hlw.2.1
        rw [e, hw] at hl1 hl2
        exact ⟨by have := hg2.1; omega, hl2⟩
      have ex := xor_max hw0.1 hw0.2
      by_cases hov : 18446744073709551615 - w ≤ t.vint.2
      · have q2 : decide (18446744073709551615 - w ≤ t.vint.2) = true := by simpa using hov
        have hhe := lkHead_over (s := t) (acc := acc) (by omega)
        (simp only [go_sem, Nat.reduceAdd, Nat.reduceMul, Int.reduceToNat, Nat.reduceLeDiff, Int.reduceLE, Int.reduceLT, ↓reduceIte, Int.reduceBEq, Int.reduceBNe, Int.reduceAdd, Int.reduceSub, Int.reduceMul, q1, ep, g', lks_length, Int.toNat_natCast, ex, q2]; try refine okTr_and rfl ?_)
        (repeat ((with_reducible refine And.intro ?_ ?_); (· exact sd)))
        refine CallK.u1 (Reader_Fail t.vint.1 13 t.at_ 0) rfl ?_; (simp only [go_sem, Nat.reduceAdd, Nat.reduceMul, Int.reduceToNat, Nat.reduceLeDiff, Int.reduceLE, Int.reduceLT, ↓reduceIte, Int.reduceBEq, Int.reduceBNe, Int.reduceAdd, Int.reduceSub, Int.reduceMul, hhe]; try refine okTr_and rfl ?_)
        refine CallK.u1 (delta_Read (t.lkHead acc) pos 4 0 p0 p1 (by decide) hk1 hkl) rfl ?_; (simp only [go_sem, Nat.reduceAdd, Nat.reduceMul, Int.reduceToNat, Nat.reduceLeDiff, Int.reduceLE, Int.reduceLT, ↓reduceIte, Int.reduceBEq, Int.reduceBNe, Int.reduceAdd, Int.reduceSub, Int.reduceMul]; try refine okTr_and rfl ?_)
        have hbad : ¬ ((t.lkHead acc).fall pos 4).1.code = 0 := fun hc => by have := hst hc; omega
        have hb := hnb hbad
        refine CallK.r1 (Reader_Good ((t.lkHead acc).fall pos 4).1 0) rfl ?_; (simp only [go_sem, Nat.reduceAdd, Nat.reduceMul, Int.reduceToNat, Nat.reduceLeDiff, Int.reduceLE, Int.reduceLT, ↓reduceIte, Int.reduceBEq, Int.reduceBNe, Int.reduceAdd, Int.reduceSub, Int.reduceMul, good_false hbad]; try refine okTr_and rfl ?_)
        (refine FinK.nilk 4 2 rfl ?_; simp only [List.set_cons_zero, List.set_cons_succ])
        ((refine FinK.finB r123 [0] ?_ ?_); (· first | with_reducible rfl | (simp [hb, lks_nil]; done) | rfl); (· simp [resAL, resA1, loadA, oneOr, hb, lks_nil]))
      · have q2 : decide (18446744073709551615 - w ≤ t.vint.2) = false := by simpa using hov
        have hhe := lkHead_fits (s := t) (acc := acc) (by omega)
        have e1 : IntKind.u64.wrap (w + 1) = w + 1 := IntWalk.u64_in _ (by omega)
        have e2 : IntKind.u64.wrap (t.vint.2 + (w + 1)) = lst acc + 1 + t.vint.2 := by rw [IntWalk.u64_in _ (by omega)]; omega
        rw [hhe] at hnx hnb hkl
        (simp only [go_sem, Nat.reduceAdd, Nat.reduceMul, Int.reduceToNat, Nat.reduceLeDiff, Int.reduceLE, Int.reduceLT, ↓reduceIte, Int.reduceBEq, Int.reduceBNe, Int.reduceAdd, Int.reduceSub, Int.reduceMul, q1, ep, g', lks_length, Int.toNat_natCast, ex, q2, e1, e2]; try refine okTr_and rfl ?_)
        (repeat ((with_reducible refine And.intro ?_ ?_); (· exact sd)))
        refine CallK.u1 (delta_Read t.vint.1 pos 4 0 p0 p1 (by decide) hv1 hkl) rfl ?_; (simp only [go_sem, Nat.reduceAdd, Nat.reduceMul, Int.reduceToNat, Nat.reduceLeDiff, Int.reduceLE, Int.reduceLT, ↓reduceIte, Int.reduceBEq, Int.reduceBNe, Int.reduceAdd, Int.reduceSub, Int.reduceMul]; try refine okTr_and rfl ?_)
        by_cases hc : (t.vint.1.fall pos 4).1.code = 0
        · have hon := hnx hc
          have hl2 := hon.len
          rw [List.length_append, List.length_singleton, hi2] at hl2
          refine CallK.r1 (Reader_Good (t.vint.1.fall pos 4).1 0) rfl ?_; (simp only [go_sem, Nat.reduceAdd, Nat.reduceMul, Int.reduceToNat, Nat.reduceLeDiff, Int.reduceLE, Int.reduceLT, ↓reduceIte, Int.reduceBEq, Int.reduceBNe, Int.reduceAdd, Int.reduceSub, Int.reduceMul, good_true hc, lks_snoc, lks_length, ei]; try refine okTr_and rfl ?_)
          (repeat ((with_reducible refine And.intro ?_ ?_); (· exact sd)))
          exact ⟨((t.vint.1.fall pos 4).1, acc ++ [⟨lst acc + 1 + t.vint.2, (t.vint.1.fall pos 4).2⟩]), hon, by simp; omega, Wk.sel [0, 1] (by simp) rfl (by simp) rfl (by simp [ixs_z, rdr_ren]) (by simp [selT, ixs_z, lks, ixs])⟩
        · have hb := hnb hc
          refine CallK.r1 (Reader_Good (t.vint.1.fall pos 4).1 0) rfl ?_; (simp only [go_sem, Nat.reduceAdd, Nat.reduceMul, Int.reduceToNat, Nat.reduceLeDiff, Int.reduceLE, Int.reduceLT, ↓reduceIte, Int.reduceBEq, Int.reduceBNe, Int.reduceAdd, Int.reduceSub, Int.reduceMul, good_false hc]; try refine okTr_and rfl ?_)
          (refine FinK.nilk 4 2 rfl ?_; simp only [List.set_cons_zero, List.set_cons_succ])
          ((refine FinK.finB r123 [0] ?_ ?_); (· first | with_reducible rfl | (simp [hb, lks_nil]; done) | rfl); (· simp [resAL, resA1, loadA, oneOr, hb, lks_nil]))
    · have hnil : acc = [] := List.eq_nil_of_length_eq_zero (by omega)
      have q1 : decide ((0 : Int) < (acc.length : Int)) = false := by rw [hnil]; rfl
      have hhe := lkHead_nil h1
      rw [← hnil] at hhe
      rw [hhe] at hnx hnb hkl
      have hl0 : lst acc = -1 := by rw [hnil]; rfl
      have e2 : t.vint.2 = lst acc + 1 + t.vint.2 := by omega
      (simp only [go_sem, Nat.reduceAdd, Nat.reduceMul, Int.reduceToNat, Nat.reduceLeDiff, Int.reduceLE, Int.reduceLT, ↓reduceIte, Int.reduceBEq, Int.reduceBNe, Int.reduceAdd, Int.reduceSub, Int.reduceMul, q1]; try refine okTr_and rfl ?_)
      refine CallK.u1 (delta_Read t.vint.1 pos 4 0 p0 p1 (by decide) hv1 hkl) rfl ?_; (simp only [go_sem, Nat.reduceAdd, Nat.reduceMul, Int.reduceToNat, Nat.reduceLeDiff, Int.reduceLE, Int.reduceLT, ↓reduceIte, Int.reduceBEq, Int.reduceBNe, Int.reduceAdd, Int.reduceSub, Int.reduceMul]; try refine okTr_and rfl ?_)
      by_cases hc : (t.vint.1.fall pos 4).1.code = 0
      · have hon := hnx hc
        have hl2 := hon.len
        rw [List.length_append, List.length_singleton, hi2] at hl2
        rw [← e2] at hon
        have esn : lks acc ++ [.agg [uA t.vint.2, slU (t.vint.1.fall pos 4).2]] = lks (acc ++ [⟨t.vint.2, (t.vint.1.fall pos 4).2⟩]) := lks_snoc acc ⟨t.vint.2, (t.vint.1.fall pos 4).2⟩
        refine CallK.r1 (Reader_Good (t.vint.1.fall pos 4).1 0) rfl ?_; (simp only [go_sem, Nat.reduceAdd, Nat.reduceMul, Int.reduceToNat, Nat.reduceLeDiff, Int.reduceLE, Int.reduceLT, ↓reduceIte, Int.reduceBEq, Int.reduceBNe, Int.reduceAdd, Int.reduceSub, Int.reduceMul, good_true hc, esn, lks_length, ei]; try refine okTr_and rfl ?_)
        (repeat ((with_reducible refine And.intro ?_ ?_); (· exact sd)))
        exact ⟨((t.vint.1.fall pos 4).1, acc ++ [⟨t.vint.2, (t.vint.1.fall pos 4).2⟩]), hon, by simp; omega, Wk.sel [0, 1] (by simp) rfl (by simp) rfl (by simp [ixs_z, rdr_ren]) (by simp [selT, ixs_z, lks, ixs])⟩
      · have hb := hnb hc
        refine CallK.r1 (Reader_Good (t.vint.1.fall pos 4).1 0) rfl ?_; (simp only [go_sem, Nat.reduceAdd, Nat.reduceMul, Int.reduceToNat, Nat.reduceLeDiff, Int.reduceLE, Int.reduceLT, ↓reduceIte, Int.reduceBEq, Int.reduceBNe, Int.reduceAdd, Int.reduceSub, Int.reduceMul, good_false hc]; try refine okTr_and rfl ?_)
        (refine FinK.nilk 4 2 rfl ?_; simp only [List.set_cons_zero, List.set_cons_succ])
        ((refine FinK.finB r123 [0] ?_ ?_); (· first | with_reducible rfl | (simp [hb, lks_nil]; done) | rfl); (· simp [resAL, resA1, loadA, oneOr, hb, lks_nil]))
  · have q0 : decide ((acc.length : Int) < (N : Int)) = false := by simp; omega
    have hb := many_end (F := linkF pos) (s := t) (N := N) (acc := acc) (by omega)
    rw [h6] at hb
    (simp only [go_sem, Nat.reduceAdd, Nat.reduceMul, Int.reduceToNat, Nat.reduceLeDiff, Int.reduceLE, Int.reduceLT, ↓reduceIte, Int.reduceBEq, Int.reduceBNe, Int.reduceAdd, Int.reduceSub, Int.reduceMul, q0]; try refine okTr_and rfl ?_)
    (refine FinK.untag 4 rfl ?_; simp only [untag1_sl, List.set_cons_zero, List.set_cons_succ])
    ((refine FinK.finB r123 [0] ?_ ?_); (· first | with_reducible rfl | (simp [hb]; done) | rfl); (· simp [resAL, resA1, loadA, oneOr, hb]))
theorem link_Read (s : RS) (pos : Int) (i : Nat) (p0 : 0 ≤ pos) (p1 : pos < 18446744073709551616) (hs : ROk s) (hn : s.l.length * 32 ≤ 100000000000000) : Ct Tryz.prog 123 [.ref i 0, uA pos] [(i, rdr s)] (fun _ => slL (s.links pos).2) [(i, rdr ((s.links pos).1))] (fun _ => []) := Ct.u1 (link_Read0 s pos p0 p1 hs hn) i cl (fun ρ => rdr_ren ρ _) (fun ρ => rdr_ren ρ _) (rdr_dead _) cl
end Go.Proofs.YtnfagphepkeedaaGreat
end
section
namespace Go.Proofs.YtnfagphepkeedaaGreat
open Go.RowKit

section
variable {P : Program} {f : FuncId} {args args₀ : List AV} {S : List AObj} {K : KT}
/-- A row that is given, and grows. -/
theorem Ct.o1 {o o' : AObj} {r₀ r : AV} (h : Does P f args₀ [o] r₀ [o']) (i : Nat) (ha : ∀ N, args₀.map (fun x => x.ren (ixs [i] N)) = args) (ho : ∀ ρ, o.ren ρ = o) (ho' : ∀ ρ, o'.ren ρ = o') (hd : o ≠ .dead) (hr : ∀ N, r₀.ren (ixs [i] N) = r) :
    Ct P f args [(i, o)] (fun _ => r) [(i, o')] (fun _ => []) :=
  Ct.mk h [i] (by simp) rfl (by simp) (by simpa using hd) (fun n N => ha N) (fun n N => by simpa using hr N) (fun n N => by simp [ho]) (.inl fun n N => by simp [ho']) (fun n N => rfl)
theorem CallK.o1 {r : AV} {i : Nat} {o o' : AObj} (h : Ct P f args [(i, o)] (fun _ => r) [(i, o')] (fun _ => [])) (hS : S[i]? = some o) (hK : K r [i] [(i, o')] []) : CallK P f args S K := CallK.of h (by simpa using hS) (by simp) hK
end
section
variable {P : Program} {f : FuncId} {args args' : List AV} {S : List AObj} {K : KT}
end
section
variable {P : Program} {f : FuncId} {args args' : List AV} {S : List AObj} {K : KT} {m : Nat} {fn : Func}
end
/-- One value told less exactly than another: whose its slices are is forgotten, an empty slice is one of anything. -/
structure Wa (x y : AV) : Prop where
  len : x.cells.length = y.cells.length
  val : ∀ (G : Gh) (v : Value), Rep G x v → Rep G y v
  cel : ∀ (j : Nat) (a b : AV), x.cells[j]? = some a → y.cells[j]? = some b → ∀ (G : Gh) (v : Value), Rep G a v → Rep G b v
def WaL (xs ys : List AV) : Prop := xs.length = ys.length ∧ ∀ (j : Nat) (x y : AV), xs[j]? = some x → ys[j]? = some y → Wa x y
theorem Wa.refl (x : AV) : Wa x x := ⟨rfl, fun _ _ r => r, fun j a b ha hb G v r => by rw [ha] at hb; injection hb with hb; subst hb; exact r⟩
theorem WaL.nil : WaL [] [] := ⟨rfl, fun j x y h => by simp at h⟩
theorem WaL.cons {x y : AV} {xs ys : List AV} (h : Wa x y) (k : WaL xs ys) : WaL (x :: xs) (y :: ys) := by
  refine ⟨by simp [k.1], fun j a b ha hb => ?_⟩
  cases j with
  | zero => simp at ha hb; subst ha hb; exact h
  | succ j => simp at ha hb; exact k.2 j a b ha hb
theorem WaL.refl (xs : List AV) : WaL xs xs := ⟨rfl, fun j x y hx hy => by rw [hx] at hy; injection hy with hy; subst hy; exact .refl _⟩
theorem WaL.map {α : Type} {f g : α → AV} (h : ∀ x, Wa (f x) (g x)) (l : List α) : WaL (l.map f) (l.map g) := ⟨by simp, fun j x y hx hy => by
  obtain ⟨a, ha, rfl⟩ := map_get hx
  obtain ⟨b, hb, rfl⟩ := map_get hy
  rw [ha] at hb; injection hb with hb; subst hb; exact h a⟩
theorem WaL.app {xs ys xs' ys' : List AV} (h : WaL xs ys) (k : WaL xs' ys') : WaL (xs ++ xs') (ys ++ ys') := by
  refine ⟨by simp [h.1, k.1], fun j x y hx hy => ?_⟩
  rw [List.getElem?_append] at hx hy
  rw [h.1] at hx
  split at hx
  · rename_i hl; rw [if_pos hl] at hy; exact h.2 j x y hx hy
  · rename_i hl; rw [if_neg hl] at hy; exact k.2 _ x y hx hy
theorem one_cel {x y : AV} (hx : x.cells = [x]) (hy : y.cells = [y]) (h : ∀ (G : Gh) (v : Value), Rep G x v → Rep G y v) : Wa x y := by
  refine ⟨by rw [hx, hy]; rfl, h, fun j a b ha hb G v r => ?_⟩
  rw [hx] at ha
  rw [hy] at hb
  cases j with
  | zero => simp at ha hb; subst ha hb; exact h G v r
  | succ j => simp at ha
theorem Wa.sl {t t' : Tag} {k k' : Nat} {xs ys : List AV} (ht : t' = .none ∨ t' = t) (hk : k = k' ∨ xs = []) (hw : WaL xs ys) : Wa (.sl t k xs) (.sl t' k' ys) := by
  obtain ⟨hl, h⟩ := hw
  refine one_cel rfl rfl fun G v r => ?_
  cases r with
  | @sl _ _ _ A c b o vs hc hA hk1 h1 h2 h3 ht1 =>
    have htag : TagOk G t' A ys.length c := by
      rcases ht with rfl | rfl
      · trivial
      · rw [← hl]; exact ht1
    have main : Rep G (.sl t' k' ys) (.slice A ys.length c) := by
      rcases hk with rfl | rfl
      · refine .sl (b := b) (o := o) vs (by rw [← hl]; exact hc) (by rw [← hl]; exact hA) (fun i y hy => ?_) (by rw [← hl]; exact h1) (by rw [← hl]; exact h2) (fun i j y z hy hz => ?_) htag
        · have hi : i < xs.length := by rw [hl]; exact (List.getElem?_eq_some_iff.1 hy).1
          have hx := List.getElem?_eq_getElem hi
          rw [← (h i _ y hx hy).len]; exact hk1 i _ hx
        · have hi : i < xs.length := by rw [hl]; exact (List.getElem?_eq_some_iff.1 hy).1
          have hx := List.getElem?_eq_getElem hi
          have hw := h i _ y hx hy
          have hj : j < xs[i].cells.length := by rw [hw.len]; exact (List.getElem?_eq_some_iff.1 hz).1
          have hu := List.getElem?_eq_getElem hj
          exact hw.cel j _ z hu hz G _ (h3 i j _ _ hx hu)
      · obtain rfl : ys = [] := List.eq_nil_of_length_eq_zero (by rw [← hl]; rfl)
        exact .sl (b := b) (o := o) vs (by simp) (by simp) (by simp) (by simp) (by simp) (by simp) htag
    rw [← hl] at main; exact main
theorem Wa.agg {xs ys : List AV} (hw : WaL xs ys) : Wa (.agg xs) (.agg ys) := by
  obtain ⟨hl, h⟩ := hw
  refine ⟨hl, fun G v r => ?_, fun j a b ha hb G v r => (h j a b ha hb).val G v r⟩
  cases r with
  | @agg _ vs h0 h2 h3 =>
    refine .agg (by rw [← hl]; exact h0) h2 fun j y v hy hv => ?_
    have hj : j < xs.length := by rw [hl]; exact (List.getElem?_eq_some_iff.1 hy).1
    have hx := List.getElem?_eq_getElem hj
    exact (h j _ y hx hy).val G v (h3 j _ v hx hv)
theorem Wa.tup {xs ys : List AV} (hw : WaL xs ys) : Wa (.tup xs) (.tup ys) := by
  obtain ⟨hl, h⟩ := hw
  refine one_cel rfl rfl fun G v r => ?_
  cases r with
  | @tup _ vs h0 h3 =>
    refine .tup (by rw [← hl]; exact h0) fun j y v hy hv => ?_
    have hj : j < xs.length := by rw [hl]; exact (List.getElem?_eq_some_iff.1 hy).1
    have hx := List.getElem?_eq_getElem hj
    exact (h j _ y hx hy).val G v (h3 j _ v hx hv)
theorem Wa.slN {t : Tag} {k : Nat} {xs ys : List AV} (h : WaL xs ys) : Wa (.sl t k xs) (.sl .none k ys) := .sl (.inl rfl) (.inl rfl) h
theorem Wa.slS {t : Tag} {k : Nat} {xs ys : List AV} (h : WaL xs ys) : Wa (.sl t k xs) (.sl t k ys) := .sl (.inr rfl) (.inl rfl) h
theorem Wa.none {t : Tag} {k : Nat} {xs : List AV} : Wa (.sl t k xs) (.sl .none k xs) := .slN (WaL.refl xs)
theorem Wa.nil {t : Tag} {k k' : Nat} : Wa (.sl t k []) (.sl .none k' []) := .sl (.inl rfl) (.inr rfl) WaL.nil
section
variable {P : Program} {f : FuncId} {args args' : List AV} {S : List AObj} {m : Nat} {fn : Func} {tm : List AV}
theorem Ct.weak {rd : List (Nat × AObj)} {r : Nat → AV} {upd : List (Nat × AObj)} {new : Nat → List AObj} (h : Ct P f args' rd r upd new) (he : WaL args args') : Ct P f args rd r upd new := fun T n h1 h2 => by
  have hd := h T n h1 h2
  refine ⟨hd.1, fun G w vs hw hr => hd.2 G w vs hw ⟨by rw [← he.1]; exact hr.1, fun j y v hy hv => ?_⟩⟩
  have hj : j < args.length := by rw [he.1]; exact (List.getElem?_eq_some_iff.1 hy).1
  have hx := List.getElem?_eq_getElem hj
  exact (he.2 j _ y hx hy).val G v (hr.2 j _ v hx hv)
theorem Wk.wa (t : Nat) {x y : AV} (ht : tm[t]? = some x) (h : Wa x y) : Wk m tm S (tm.set t y) S := fun G0 S0 w0 G a w _ hz => by
  have htl := (List.getElem?_eq_some_iff.1 ht).1
  refine ⟨G, hz.left, by simp [hz.size], fun t' z u hx hu => ?_, hz.defers, hz.wd0⟩
  by_cases et : t' = t
  · subst et
    simp [htl] at hx; subst hx
    exact h.val _ _ (hz.rep t' x u ht hu)
  · rw [List.getElem?_set_ne (Ne.symm et)] at hx
    exact hz.rep t' z u hx hu
theorem FinK.wa {S' : List AObj} {r : AV} (t : Nat) {x y : AV} (ht : tm[t]? = some x) (h : Wa x y) (k : FinK P m fn (tm.set t y) S r S') : FinK P m fn tm S r S' := FinK.wk (Wk.wa t ht h) k
theorem Wk.wao (i : Nat) {xs ys : List AV} (hi : S[i]? = some (.cells xs)) (h : WaL xs ys) : Wk m tm S tm (S.set i (.cells ys)) := fun G0 S0 w0 G a w _ hz => by
  refine ⟨G, hz.left.trans (Left.reobj hz.left.wd hi h.1.symm fun k y v hy hx => ?_), hz.size, hz.rep, hz.defers, hz.wd0⟩
  have hk : k < xs.length := by rw [h.1]; exact (List.getElem?_eq_some_iff.1 hy).1
  have he := List.getElem?_eq_getElem hk
  exact (h.2 k _ y he hy).val _ _ (hx _ he)
theorem FinK.wao {S' : List AObj} {r : AV} (i : Nat) {xs ys : List AV} (hi : S[i]? = some (.cells xs)) (h : WaL xs ys) (k : FinK P m fn tm (S.set i (.cells ys)) r S') : FinK P m fn tm S r S' := FinK.wk (Wk.wao i hi h) k
end
end Go.Proofs.YtnfagphepkeedaaGreat
end
section
namespace Go.Proofs.YtnfagphepkeedaaGreat
open Go.RowKit

set_option maxRecDepth 100000 in
theorem ref23_Right0 (pos : Int) (l : List Lk) (hm : Smalls l) : Does Tryz.prog 173 [uA pos, slL l] [] (bA (rightL pos l)) [] := by
  obtain ⟨hn, hb⟩ := hm
  refine Does.runA Tryz.func173 b173 n173 Tryz.ntmps173 ?_; simp only [c173, go_sem, Nat.reduceAdd, Nat.reduceMul, Int.reduceToNat, Nat.reduceLeDiff, Int.reduceLE, Int.reduceLT, ↓reduceIte, Int.reduceBEq, Int.reduceBNe, Int.reduceAdd, Int.reduceSub, Int.reduceMul, lks_length]; try refine okTr_and rfl ?_
  by_cases h16 : l.length ≤ 16
  · have q0 : decide (16 < (l.length : Int)) = false := by simp; omega
    (simp only [go_sem, Nat.reduceAdd, Nat.reduceMul, Int.reduceToNat, Nat.reduceLeDiff, Int.reduceLE, Int.reduceLT, ↓reduceIte, Int.reduceBEq, Int.reduceBNe, Int.reduceAdd, Int.reduceSub, Int.reduceMul, q0]; try refine okTr_and rfl ?_)
    refine loop_of (α := Nat) (fun k => [uA pos, slL l, .any, .any, .any, iA k, .any, .any, .any, .any, .any, .any, .any, .any, .any, .any, .any, .any, .any, .any, .any, .any, .any, .any, .any, .any, .any, .any, .any, .any, .any, .any, .any, .any, .any, .any, .any, .any, .any, .any, .any, .any, .any, .any, .any, .any, .any, .any, .any, .any]) (fun _ => []) (fun k => k ≤ l.length ∧ ∀ i, i < k → (0 < i → (l.getD (i - 1) lk0).st < (l.getD i lk0).st) ∧ goodL pos (l.getD i lk0) = true) (fun k => l.length - k) 0 ⟨by simp, fun i hi => by omega⟩ (Wk.to (by simp) (by simp [leT])) ?_
    rintro k ⟨hk, hall⟩
    (simp only [go_sem, Nat.reduceAdd, Nat.reduceMul, Int.reduceToNat, Nat.reduceLeDiff, Int.reduceLE, Int.reduceLT, ↓reduceIte, Int.reduceBEq, Int.reduceBNe, Int.reduceAdd, Int.reduceSub, Int.reduceMul, lks_length]; try refine okTr_and rfl ?_)
    by_cases hlt : k < l.length
    · have q1 : decide ((k : Int) < (l.length : Int)) = true := by simp; omega
      have ek := i64_succ k (by omega)
      have g := lks_get l k hlt
      have hm := lk_mem l k hlt
      have hbk := hb _ hm
      obtain ⟨x, hx⟩ : ∃ x, l.getD k lk0 = x := ⟨_, rfl⟩
      rw [hx] at g hm hbk
      have hno : ∀ (h : rightL pos l = true), (0 < k → (l.getD (k - 1) lk0).st < x.st) ∧ x.bk.length ≤ 4 ∧ falls pos x.bk = true := fun h => by
        obtain ⟨r1, r2, r3⟩ := rightL_iff.1 h
        refine ⟨fun h0 => ?_, goodL_iff.1 (r3 x hm)⟩
        have := risesL_iff.1 r2 k hlt h0
        rw [hx] at this; exact this
      have bad : (0 < k ∧ ¬ (l.getD (k - 1) lk0).st < x.st) ∨ ¬ x.bk.length ≤ 4 ∨ ¬ falls pos x.bk = true → rightL pos l = false := fun h => by
        cases hr : rightL pos l with
        | false => rfl
        | true =>
          obtain ⟨a, b, c⟩ := hno hr
          rcases h with ⟨h1, h2⟩ | h | h
          · exact absurd (a h1) h2
          · exact absurd b h
          · exact absurd c h
      have good : (0 < k → (l.getD (k - 1) lk0).st < x.st) → x.bk.length ≤ 4 → falls pos x.bk = true → ∀ i, i < k + 1 → (0 < i → (l.getD (i - 1) lk0).st < (l.getD i lk0).st) ∧ goodL pos (l.getD i lk0) = true := fun h1 h2 h3 i hi => by
        rcases Nat.lt_or_ge i k with h | h
        · exact hall i h
        · obtain rfl : i = k := by omega
          rw [hx]; exact ⟨h1, goodL_iff.2 ⟨h2, h3⟩⟩
      have hfin : ∀ b : Bool, b = falls pos x.bk → (b = true → (0 < k → (l.getD (k - 1) lk0).st < x.st) → x.bk.length ≤ 4 → falls pos x.bk = true) := fun b hb h _ _ => by rw [← hb]; exact h
      by_cases h0 : 0 < k
      · have q2 : decide ((0 : Int) < (k : Int)) = true := by simp; omega
        have ep := i64_pred k h0 (by omega)
        have g2 := lks_get l (k - 1) (by omega)
        by_cases hs : (l.getD (k - 1) lk0).st < x.st
        · have q3 : decide (x.st ≤ (l.getD (k - 1) lk0).st) = false := decide_eq_false (by omega)
          by_cases h4 : x.bk.length ≤ 4
          · have q4 : decide (4 < (x.bk.length : Int)) = false := by simp; omega
            (simp only [go_sem, Nat.reduceAdd, Nat.reduceMul, Int.reduceToNat, Nat.reduceLeDiff, Int.reduceLE, Int.reduceLT, ↓reduceIte, Int.reduceBEq, Int.reduceBNe, Int.reduceAdd, Int.reduceSub, Int.reduceMul, q1, q2, g, g2, ep, q3, q4, lks_length, ints_length, Int.toNat_natCast]; try refine okTr_and rfl ?_)
            (repeat ((with_reducible refine And.intro ?_ ?_); (· exact sd)))
            refine CallK.p (ref22_Falls pos x.bk (by omega)) ?_
            by_cases hf : falls pos x.bk = true
            · (simp only [go_sem, Nat.reduceAdd, Nat.reduceMul, Int.reduceToNat, Nat.reduceLeDiff, Int.reduceLE, Int.reduceLT, ↓reduceIte, Int.reduceBEq, Int.reduceBNe, Int.reduceAdd, Int.reduceSub, Int.reduceMul, hf, ek]; try refine okTr_and rfl ?_)
              (repeat ((with_reducible refine And.intro ?_ ?_); (· exact sd)))
              exact ⟨k + 1, ⟨hlt, good (fun _ => hs) h4 hf⟩, by omega, Wk.to (by simp) (by simp [leT])⟩
            · have e := bad (.inr (.inr hf))
              have hf' : falls pos x.bk = false := by simpa using hf
              (simp only [go_sem, Nat.reduceAdd, Nat.reduceMul, Int.reduceToNat, Nat.reduceLeDiff, Int.reduceLE, Int.reduceLT, ↓reduceIte, Int.reduceBEq, Int.reduceBNe, Int.reduceAdd, Int.reduceSub, Int.reduceMul, hf']; try refine okTr_and rfl ?_)
              (repeat ((with_reducible refine And.intro ?_ ?_); (· exact sd)))
              ((refine FinK.finB r173 [] ?_ ?_); (· first | with_reducible rfl | (simp [e]; done) | rfl); (· simp [resAL, resA1, loadA, oneOr, e]))
          · have q4 : decide (4 < (x.bk.length : Int)) = true := by simp; omega
            have e := bad (.inr (.inl h4))
            (simp only [go_sem, Nat.reduceAdd, Nat.reduceMul, Int.reduceToNat, Nat.reduceLeDiff, Int.reduceLE, Int.reduceLT, ↓reduceIte, Int.reduceBEq, Int.reduceBNe, Int.reduceAdd, Int.reduceSub, Int.reduceMul, q1, q2, g, g2, ep, q3, q4, lks_length, ints_length, Int.toNat_natCast]; try refine okTr_and rfl ?_)
            (repeat ((with_reducible refine And.intro ?_ ?_); (· exact sd)))
            ((refine FinK.finB r173 [] ?_ ?_); (· first | with_reducible rfl | (simp [e]; done) | rfl); (· simp [resAL, resA1, loadA, oneOr, e]))
        · have q3 : decide (x.st ≤ (l.getD (k - 1) lk0).st) = true := decide_eq_true (by omega)
          have e := bad (.inl ⟨h0, hs⟩)
          (simp only [go_sem, Nat.reduceAdd, Nat.reduceMul, Int.reduceToNat, Nat.reduceLeDiff, Int.reduceLE, Int.reduceLT, ↓reduceIte, Int.reduceBEq, Int.reduceBNe, Int.reduceAdd, Int.reduceSub, Int.reduceMul, q1, q2, g, g2, ep, q3, lks_length, ints_length, Int.toNat_natCast]; try refine okTr_and rfl ?_)
          (repeat ((with_reducible refine And.intro ?_ ?_); (· exact sd)))
          ((refine FinK.finB r173 [] ?_ ?_); (· first | with_reducible rfl | (simp [e]; done) | rfl); (· simp [resAL, resA1, loadA, oneOr, e]))
      · have q2 : decide ((0 : Int) < (k : Int)) = false := by simp; omega
        by_cases h4 : x.bk.length ≤ 4
        · have q4 : decide (4 < (x.bk.length : Int)) = false := by simp; omega
          (simp only [go_sem, Nat.reduceAdd, Nat.reduceMul, Int.reduceToNat, Nat.reduceLeDiff, Int.reduceLE, Int.reduceLT, ↓reduceIte, Int.reduceBEq, Int.reduceBNe, Int.reduceAdd, Int.reduceSub, Int.reduceMul, q1, q2, g, q4, lks_length, ints_length, Int.toNat_natCast]; try refine okTr_and rfl ?_)
          (repeat ((with_reducible refine And.intro ?_ ?_); (· exact sd)))
          refine CallK.p (ref22_Falls pos x.bk (by omega)) ?_
          by_cases hf : falls pos x.bk = true
          · (simp only [go_sem, Nat.reduceAdd, Nat.reduceMul, Int.reduceToNat, Nat.reduceLeDiff, Int.reduceLE, Int.reduceLT, ↓reduceIte, Int.reduceBEq, Int.reduceBNe, Int.reduceAdd, Int.reduceSub, Int.reduceMul, hf, ek]; try refine okTr_and rfl ?_)
            (repeat ((with_reducible refine And.intro ?_ ?_); (· exact sd)))
            exact ⟨k + 1, ⟨hlt, good (fun h => absurd h h0) h4 hf⟩, by omega, Wk.to (by simp) (by simp [leT])⟩
          · have e := bad (.inr (.inr hf))
            have hf' : falls pos x.bk = false := by simpa using hf
            (simp only [go_sem, Nat.reduceAdd, Nat.reduceMul, Int.reduceToNat, Nat.reduceLeDiff, Int.reduceLE, Int.reduceLT, ↓reduceIte, Int.reduceBEq, Int.reduceBNe, Int.reduceAdd, Int.reduceSub, Int.reduceMul, hf']; try refine okTr_and rfl ?_)
            (repeat ((with_reducible refine And.intro ?_ ?_); (· exact sd)))
            ((refine FinK.finB r173 [] ?_ ?_); (· first | with_reducible rfl | (simp [e]; done) | rfl); (· simp [resAL, resA1, loadA, oneOr, e]))
        · have q4 : decide (4 < (x.bk.length : Int)) = true := by simp; omega
          have e := bad (.inr (.inl h4))
          (simp only [go_sem, Nat.reduceAdd, Nat.reduceMul, Int.reduceToNat, Nat.reduceLeDiff, Int.reduceLE, Int.reduceLT, ↓reduceIte, Int.reduceBEq, Int.reduceBNe, Int.reduceAdd, Int.reduceSub, Int.reduceMul, q1, q2, g, q4, lks_length, ints_length, Int.toNat_natCast]; try refine okTr_and rfl ?_)
          (repeat ((with_reducible refine And.intro ?_ ?_); (· exact sd)))
          ((refine FinK.finB r173 [] ?_ ?_); (· first | with_reducible rfl | (simp [e]; done) | rfl); (· simp [resAL, resA1, loadA, oneOr, e]))
    · have q1 : decide ((k : Int) < (l.length : Int)) = false := by simp; omega
      have e : rightL pos l = true := rightL_iff.2 ⟨h16, risesL_iff.2 fun i hi h0 => (hall i (by omega)).1 h0, fun x hx => by
        obtain ⟨i, hi, rfl⟩ := List.getElem_of_mem hx
        have := (hall i (by omega)).2
        simpa [hi] using this⟩
      (simp only [go_sem, Nat.reduceAdd, Nat.reduceMul, Int.reduceToNat, Nat.reduceLeDiff, Int.reduceLE, Int.reduceLT, ↓reduceIte, Int.reduceBEq, Int.reduceBNe, Int.reduceAdd, Int.reduceSub, Int.reduceMul, q1]; try refine okTr_and rfl ?_)
      ((refine FinK.finB r173 [] ?_ ?_); (· first | with_reducible rfl | (simp [e]; done) | rfl); (· simp [resAL, resA1, loadA, oneOr, e]))
  · have q0 : decide (16 < (l.length : Int)) = true := by simp; omega
    have he : rightL pos l = false := by simp [rightL, h16]
    (simp only [go_sem, Nat.reduceAdd, Nat.reduceMul, Int.reduceToNat, Nat.reduceLeDiff, Int.reduceLE, Int.reduceLT, ↓reduceIte, Int.reduceBEq, Int.reduceBNe, Int.reduceAdd, Int.reduceSub, Int.reduceMul, q0]; try refine okTr_and rfl ?_)
    ((refine FinK.finB r173 [] ?_ ?_); (· first | with_reducible rfl | (simp [he]; done) | rfl); (· simp [resAL, resA1, loadA, oneOr, he]))
theorem ref23_Right (pos : Int) (l : List Lk) (hm : Smalls l) : Ct Tryz.prog 173 [uA pos, slL l] [] (fun _ => bA (rightL pos l)) [] (fun _ => []) := (ref23_Right0 pos l hm).toCt cl cl
end Go.Proofs.YtnfagphepkeedaaGreat
end
section
namespace Go.Proofs.YtnfagphepkeedaaGreat
open Go.RowKit

theorem Tryz.own : ownKnob Tryz.prog.godebug = none := by kernel_rfl
theorem Tryz.laidOut : laidOutB Tryz.prog = true := by kernel_rfl

end Go.Proofs.YtnfagphepkeedaaGreat
end
section
namespace Go.Proofs.YtnfagphepkeedaaGreat
open Go.RowKit Go.ChangeShapes Go.WideShapes Go.ChangeAt

/-- All cells of a world lie still. -/
def G0 (W : World) : Gh := ⟨fun b i => W.cell? ⟨b, i, none⟩, fun _ => none, fun _ _ => none⟩
theorem wd0 (W : World) : Wd (G0 W) [] W :=
  ⟨fun b i v h => h, fun i _ => ⟨rfl, fun _ => rfl⟩, fun i xs h => by simp at h, fun j k n h => by simp at h, fun i j b h => by simp [blk] at h⟩
theorem Does.top {P : Program} {f : FuncId} {args : List AV} (h : Does P f args [] (.lit (.bool true)) []) {W : World} {vs : Array Value} (hr : RepL (G0 W) args vs.toList) :
    Calls P f vs W fun r W' => r = .returned (.bool true) ∧ Below W.heap.size W W' := by
  refine (h.2 (G0 W) W vs (wd0 W) hr).mono fun r W' ⟨v, G', e, hv, hl⟩ => ?_
  cases hv
  exact ⟨e, hl.kept.below (fun i _ j => by simp [blk]) (Nat.le_refl _)⟩
theorem RdI.rep {k : IntKind} {W : World} {F : Nat → Prop} {v : Value} {l : List Int} (h : RdI k W F v l) : Rep (G0 W) (.sl .none 1 (ints k l)) v := by
  obtain ⟨A, c, rfl, hc, _, hA⟩ := h
  have hlen := ints_length k l
  obtain ⟨b, o, hb, hcell⟩ : ∃ b o, (0 < l.length → A = some ⟨b, o, none⟩) ∧ ∀ i, i < l.length → W.cell? ⟨b, o + i, none⟩ = some (.int k (l.getD i 0)) := by
    rcases Nat.eq_zero_or_pos l.length with h0 | h0
    · exact ⟨0, 0, fun h => by omega, fun i hi => by omega⟩
    · obtain ⟨b, o, h1, _, h2⟩ := hA h0
      exact ⟨b, o, fun _ => h1, h2⟩
  rw [← hlen]
  refine .sl (b := b) (o := o) (fun i _ => .int k (l.getD i 0)) (by rw [hlen]; exact hc) (fun h => hb (by rw [hlen] at h; exact h)) (fun i x hx => ?_) (fun i j hi hj => ?_) (fun _ _ _ _ => rfl) (fun i j x y hx hy => ?_) trivial
  · simp only [ints, List.getElem?_map, Option.map_eq_some_iff] at hx
    obtain ⟨z, _, rfl⟩ := hx; rfl
  · obtain rfl : j = 0 := by omega
    rw [hlen] at hi
    simpa [G0] using hcell i hi
  · simp only [ints, List.getElem?_map, Option.map_eq_some_iff] at hx
    obtain ⟨z, hz, rfl⟩ := hx
    simp only [AV.cells] at hy
    cases j with
    | zero =>
      simp at hy; subst hy
      have : l.getD i 0 = z := by simp [hz]
      rw [this]; exact .lit _
    | succ j => simp at hy
end Go.Proofs.YtnfagphepkeedaaGreat
end
section
namespace Go.Proofs.YtnfagphepkeedaaGreat
open Go.RowKit

end Go.Proofs.YtnfagphepkeedaaGreat
end
section
namespace Go.Proofs.YtnfagphepkeedaaGreat
open Go.RowKit

/-- An entry. -/
abbrev enA (e : En) : AV := .agg [slL e.lk, slA .u8 e.data]
def smallE (e : En) : Prop := Smalls e.lk ∧ e.data.length ≤ 100000000
theorem entry_Right0 (pos : Int) (e : En) (he : e.ok) (hm : smallE e) (p0 : 0 ≤ pos) (p1 : pos < 18446744073709551616) : Does Tryz.prog 147 [uA pos, enA e] [] (bA (rightE pos e)) [] := by
  refine Does.runA Tryz.func147 b147 n147 Tryz.ntmps147 ?_; simp only [c147, go_sem, Nat.reduceAdd, Nat.reduceMul, Int.reduceToNat, Nat.reduceLeDiff, Int.reduceLE, Int.reduceLT, ↓reduceIte, Int.reduceBEq, Int.reduceBNe, Int.reduceAdd, Int.reduceSub, Int.reduceMul]; try refine okTr_and rfl ?_
  refine CallK.p (link_Right pos e.lk he.lk hm.1 p0 p1) ?_
  by_cases hr : rightL pos e.lk = true
  · have h : rightE pos e = decide ((e.data.length : Int) ≤ 1048576) := by
      unfold rightE; rw [hr, Bool.true_and, Bool.eq_iff_iff, decide_eq_true_eq, decide_eq_true_eq]; omega
    (simp only [go_sem, Nat.reduceAdd, Nat.reduceMul, Int.reduceToNat, Nat.reduceLeDiff, Int.reduceLE, Int.reduceLT, ↓reduceIte, Int.reduceBEq, Int.reduceBNe, Int.reduceAdd, Int.reduceSub, Int.reduceMul, hr, ints_length, ← h]; try refine okTr_and rfl ?_)
    exact FinK.finA r147 []
  · have hr' : rightL pos e.lk = false := by simpa using hr
    have h : rightE pos e = false := by unfold rightE; rw [hr']; rfl
    (simp only [go_sem, Nat.reduceAdd, Nat.reduceMul, Int.reduceToNat, Nat.reduceLeDiff, Int.reduceLE, Int.reduceLT, ↓reduceIte, Int.reduceBEq, Int.reduceBNe, Int.reduceAdd, Int.reduceSub, Int.reduceMul, hr']; try refine okTr_and rfl ?_)
    ((refine FinK.finB r147 [] ?_ ?_); (· first | with_reducible rfl | (simp [h]; done) | rfl); (· simp [resAL, resA1, loadA, oneOr, h]))
theorem entry_Right (pos : Int) (e : En) (he : e.ok) (hm : smallE e) (p0 : 0 ≤ pos) (p1 : pos < 18446744073709551616) : Ct Tryz.prog 147 [uA pos, enA e] [] (fun _ => bA (rightE pos e)) [] (fun _ => []) := (entry_Right0 pos e he hm p0 p1).toCt cl cl
theorem ref24_Right0 (pos : Int) (e : En) (hm : smallE e) : Does Tryz.prog 141 [uA pos, enA e] [] (bA (rightE pos e)) [] := by
  refine Does.runA Tryz.func141 b141 n141 Tryz.ntmps141 ?_; simp only [c141, go_sem, Nat.reduceAdd, Nat.reduceMul, Int.reduceToNat, Nat.reduceLeDiff, Int.reduceLE, Int.reduceLT, ↓reduceIte, Int.reduceBEq, Int.reduceBNe, Int.reduceAdd, Int.reduceSub, Int.reduceMul]; try refine okTr_and rfl ?_
  refine CallK.p (ref23_Right pos e.lk hm.1) ?_
  by_cases hr : rightL pos e.lk = true
  · have h : rightE pos e = decide ((e.data.length : Int) ≤ 1048576) := by
      unfold rightE; rw [hr, Bool.true_and, Bool.eq_iff_iff, decide_eq_true_eq, decide_eq_true_eq]; omega
    (simp only [go_sem, Nat.reduceAdd, Nat.reduceMul, Int.reduceToNat, Nat.reduceLeDiff, Int.reduceLE, Int.reduceLT, ↓reduceIte, Int.reduceBEq, Int.reduceBNe, Int.reduceAdd, Int.reduceSub, Int.reduceMul, hr, ints_length, ← h]; try refine okTr_and rfl ?_)
    exact FinK.finA r141 []
  · have hr' : rightL pos e.lk = false := by simpa using hr
    have h : rightE pos e = false := by unfold rightE; rw [hr']; rfl
    (simp only [go_sem, Nat.reduceAdd, Nat.reduceMul, Int.reduceToNat, Nat.reduceLeDiff, Int.reduceLE, Int.reduceLT, ↓reduceIte, Int.reduceBEq, Int.reduceBNe, Int.reduceAdd, Int.reduceSub, Int.reduceMul, hr']; try refine okTr_and rfl ?_)
    ((refine FinK.finB r141 [] ?_ ?_); (· first | with_reducible rfl | (simp [h]; done) | rfl); (· simp [resAL, resA1, loadA, oneOr, h]))
theorem ref24_Right (pos : Int) (e : En) (hm : smallE e) : Ct Tryz.prog 141 [uA pos, enA e] [] (fun _ => bA (rightE pos e)) [] (fun _ => []) := (ref24_Right0 pos e hm).toCt cl cl
def sizeE (pos : Int) (e : En) : Int := if rightE pos e = true then (headE pos e).length else 0
theorem entry_HeadSize0 (pos : Int) (e : En) (he : e.ok) (hm : smallE e) (p0 : 0 ≤ pos) (p1 : pos < 18446744073709551616) : Does Tryz.prog 135 [uA pos, enA e] [] (iA (sizeE pos e)) [] := by
  have hd := hm.2
  have eu := len_u64 e.data (by omega)
  refine Does.runA Tryz.func135 b135 n135 Tryz.ntmps135 ?_; simp only [c135, go_sem, Nat.reduceAdd, Nat.reduceMul, Int.reduceToNat, Nat.reduceLeDiff, Int.reduceLE, Int.reduceLT, ↓reduceIte, Int.reduceBEq, Int.reduceBNe, Int.reduceAdd, Int.reduceSub, Int.reduceMul]; try refine okTr_and rfl ?_
  refine CallK.p (entry_Right pos e he hm p0 p1) ?_
  by_cases hr : rightE pos e = true
  · have hrl := (rightE_iff.1 hr).1
    have hl := linksB_len hrl
    have hv := (vb_len (e.data.length : Int)).2
    have h1 : sizeL pos e.lk = ((linksB pos e.lk).length : Int) := by unfold sizeL; rw [if_pos hrl]
    have h2 : IntKind.i64.wrap (((linksB pos e.lk).length : Int) + (vb (e.data.length : Int)).length) = sizeE pos e := by
      unfold sizeE headE; rw [if_pos hr, List.length_append, IntWalk.i64_in _ (by omega)]; omega
    (simp only [go_sem, Nat.reduceAdd, Nat.reduceMul, Int.reduceToNat, Nat.reduceLeDiff, Int.reduceLE, Int.reduceLT, ↓reduceIte, Int.reduceBEq, Int.reduceBNe, Int.reduceAdd, Int.reduceSub, Int.reduceMul, hr]; try refine okTr_and rfl ?_)
    refine CallK.p (link_Size pos e.lk he.lk hm.1 p0 p1) ?_; (simp only [go_sem, Nat.reduceAdd, Nat.reduceMul, Int.reduceToNat, Nat.reduceLeDiff, Int.reduceLE, Int.reduceLT, ↓reduceIte, Int.reduceBEq, Int.reduceBNe, Int.reduceAdd, Int.reduceSub, Int.reduceMul, h1, ints_length, eu]; try refine okTr_and rfl ?_)
    refine CallK.p (varint_Size e.data.length (by omega) (by omega)) ?_; (simp only [go_sem, Nat.reduceAdd, Nat.reduceMul, Int.reduceToNat, Nat.reduceLeDiff, Int.reduceLE, Int.reduceLT, ↓reduceIte, Int.reduceBEq, Int.reduceBNe, Int.reduceAdd, Int.reduceSub, Int.reduceMul, h2]; try refine okTr_and rfl ?_)
    (repeat ((with_reducible refine And.intro ?_ ?_); (· exact sd)))
    exact FinK.finA r135 []
  · have hr' : rightE pos e = false := by simpa using hr
    have h2 : sizeE pos e = 0 := by unfold sizeE; rw [if_neg hr]
    (simp only [go_sem, Nat.reduceAdd, Nat.reduceMul, Int.reduceToNat, Nat.reduceLeDiff, Int.reduceLE, Int.reduceLT, ↓reduceIte, Int.reduceBEq, Int.reduceBNe, Int.reduceAdd, Int.reduceSub, Int.reduceMul, hr']; try refine okTr_and rfl ?_)
    ((refine FinK.finB r135 [] ?_ ?_); (· first | with_reducible rfl | (simp [h2]; done) | rfl); (· simp [resAL, resA1, loadA, oneOr, h2]))
theorem entry_HeadSize (pos : Int) (e : En) (he : e.ok) (hm : smallE e) (p0 : 0 ≤ pos) (p1 : pos < 18446744073709551616) : Ct Tryz.prog 135 [uA pos, enA e] [] (fun _ => iA (sizeE pos e)) [] (fun _ => []) := (entry_HeadSize0 pos e he hm p0 p1).toCt cl cl
end Go.Proofs.YtnfagphepkeedaaGreat
end
section
namespace Go.Proofs.YtnfagphepkeedaaGreat
open Go.RowKit

def ens (l : List En) : List AV := l.map enA
abbrev slE (l : List En) : AV := .sl .none 2 (ens l)
theorem ens_length (l : List En) : (ens l).length = l.length := by simp [ens]
theorem ens_get (l : List En) (k : Nat) (h : k < l.length) : (ens l).getD k .any = enA (l.getD k en0) := by simp [ens, h]
@[simp] theorem ren_ens (ρ : Nat → Nat) (l : List En) : (ens l).map (fun x => x.ren ρ) = ens l := by
  simp [ens, Function.comp_def, ixs_z, ren_ints, ren_lks]
theorem take_joinE (l : List En) (k : Nat) (h : k < l.length) : joinE (l.take k) ++ (l.getD k en0).data = joinE (l.take (k + 1)) := by
  have : l.take (k + 1) = l.take k ++ [l.getD k en0] := by
    rw [List.take_add_one]
    simp [h]
  rw [this, joinE_snoc]
theorem joinE_take_le (l : List En) (k : Nat) : (joinE (l.take k)).length ≤ (joinE l).length := by
  have e : joinE l = joinE (l.take k) ++ joinE (l.drop k) := by unfold joinE; rw [← List.flatMap_append, List.take_append_drop]
  rw [e, List.length_append]; omega
theorem entry_Total0 (l : List En) (hl : l.length ≤ 1000000) (hn : (joinE l).length ≤ 140737488355328) : Does Tryz.prog 146 [slE l] [] (iA (joinE l).length) [] := by
  refine Does.runA Tryz.func146 b146 n146 Tryz.ntmps146 ?_; simp only [c146, go_sem, Nat.reduceAdd, Nat.reduceMul, Int.reduceToNat, Nat.reduceLeDiff, Int.reduceLE, Int.reduceLT, ↓reduceIte, Int.reduceBEq, Int.reduceBNe, Int.reduceAdd, Int.reduceSub, Int.reduceMul, ens_length]; try refine okTr_and rfl ?_
  refine loop_of (α := Nat) (fun k => [.any, .any, .any, iA (joinE (l.take k)).length, .any, .any, slE l, iA l.length, iA k, .any, .any, .any, .any, .any, .any, .any, .any, .any, .any]) (fun _ => []) (fun k => k ≤ l.length) (fun k => l.length - k) 0 (by simp) (Wk.to (by simp) (by simp [leT, joinE])) ?_
  intro k hk
  (simp only [go_sem, Nat.reduceAdd, Nat.reduceMul, Int.reduceToNat, Nat.reduceLeDiff, Int.reduceLE, Int.reduceLT, ↓reduceIte, Int.reduceBEq, Int.reduceBNe, Int.reduceAdd, Int.reduceSub, Int.reduceMul]; try refine okTr_and rfl ?_)
  by_cases hlt : k < l.length
  · have q1 : decide ((k : Int) < (l.length : Int)) = true := decide_eq_true (by omega)
    have ek := i64_succ k (by omega)
    have g := ens_get l k hlt
    have ht := take_joinE l k hlt
    have hle := joinE_take_le l (k + 1)
    have hlen := congrArg List.length ht
    rw [List.length_append] at hlen
    have w : IntKind.i64.wrap (((joinE (l.take k)).length : Int) + ((l.getD k en0).data.length : Int)) = ((joinE (l.take (k + 1))).length : Int) := by rw [IntWalk.i64_in _ (by omega)]; omega
    (simp only [go_sem, Nat.reduceAdd, Nat.reduceMul, Int.reduceToNat, Nat.reduceLeDiff, Int.reduceLE, Int.reduceLT, ↓reduceIte, Int.reduceBEq, Int.reduceBNe, Int.reduceAdd, Int.reduceSub, Int.reduceMul, q1, g, ens_length, ints_length, Int.toNat_natCast, w, ek]; try refine okTr_and rfl ?_)
    (repeat ((with_reducible refine And.intro ?_ ?_); (· exact sd)))
    exact ⟨k + 1, hlt, by omega, Wk.sel [] (by simp) rfl (by simp) rfl (by simp) (by simp [selT, ixs_z, ren_ens])⟩
  · have q1 : decide ((k : Int) < (l.length : Int)) = false := decide_eq_false (by omega)
    have e : l.take k = l := List.take_of_length_le (by omega)
    (simp only [go_sem, Nat.reduceAdd, Nat.reduceMul, Int.reduceToNat, Nat.reduceLeDiff, Int.reduceLE, Int.reduceLT, ↓reduceIte, Int.reduceBEq, Int.reduceBNe, Int.reduceAdd, Int.reduceSub, Int.reduceMul, q1]; try refine okTr_and rfl ?_)
    ((refine FinK.finB r146 [] ?_ ?_); (· first | with_reducible rfl | (simp [e]; done) | rfl); (· simp [resAL, resA1, loadA, oneOr, e]))
theorem entry_Total (l : List En) (hl : l.length ≤ 1000000) (hn : (joinE l).length ≤ 140737488355328) : Ct Tryz.prog 146 [slE l] [] (fun _ => iA (joinE l).length) [] (fun _ => []) := (entry_Total0 l hl hn).toCt cl cl
theorem ref24_Join0 (l : List En) (hl : l.length ≤ 1000000) (hn : (joinE l).length ≤ 100000000) : Does Tryz.prog 140 [slE l] [] (ownA 0 (joinE l)) [.row 1 (joinE l).length] := by
  refine Does.runA Tryz.func140 b140 n140 Tryz.ntmps140 ?_; simp only [c140, go_sem, Nat.reduceAdd, Nat.reduceMul, Int.reduceToNat, Nat.reduceLeDiff, Int.reduceLE, Int.reduceLT, ↓reduceIte, Int.reduceBEq, Int.reduceBNe, Int.reduceAdd, Int.reduceSub, Int.reduceMul]; try refine okTr_and rfl ?_
  refine loop_of (α := Nat) (fun k => [slE l, .any, .any, ownA 0 (joinE (l.take k)), iA k, .any, .any, .any, .any, .any, .any, .any, .any, .any, .any, .any, .any, .any, .any]) (fun k => [.row 1 (joinE (l.take k)).length]) (fun k => k ≤ l.length) (fun k => l.length - k) 0 (by simp) ((Wk.row 3 1 rfl (.inr rfl) (Nat.le_refl _)).trans (Wk.to (by simp [joinE]) (by simp [leT, joinE, ints]))) ?_
  intro k hk
  (simp only [go_sem, Nat.reduceAdd, Nat.reduceMul, Int.reduceToNat, Nat.reduceLeDiff, Int.reduceLE, Int.reduceLT, ↓reduceIte, Int.reduceBEq, Int.reduceBNe, Int.reduceAdd, Int.reduceSub, Int.reduceMul, ens_length]; try refine okTr_and rfl ?_)
  by_cases hlt : k < l.length
  · have q1 : decide ((k : Int) < (l.length : Int)) = true := decide_eq_true (by omega)
    have ek := i64_succ k (by omega)
    have g := ens_get l k hlt
    have ht := take_joinE l k hlt
    have hle := joinE_take_le l (k + 1)
    (simp only [go_sem, Nat.reduceAdd, Nat.reduceMul, Int.reduceToNat, Nat.reduceLeDiff, Int.reduceLE, Int.reduceLT, ↓reduceIte, Int.reduceBEq, Int.reduceBNe, Int.reduceAdd, Int.reduceSub, Int.reduceMul, q1, g, ens_length, Int.toNat_natCast, ints_append, ints_length, ← List.length_append, ht, ek]; try refine okTr_and rfl ?_)
    (repeat ((with_reducible refine And.intro ?_ ?_); (· exact sd)))
    exact ⟨k + 1, hlt, by omega, Wk.to (by simp) (by simp [leT])⟩
  · have q1 : decide ((k : Int) < (l.length : Int)) = false := decide_eq_false (by omega)
    have e : l.take k = l := List.take_of_length_le (by omega)
    (simp only [go_sem, Nat.reduceAdd, Nat.reduceMul, Int.reduceToNat, Nat.reduceLeDiff, Int.reduceLE, Int.reduceLT, ↓reduceIte, Int.reduceBEq, Int.reduceBNe, Int.reduceAdd, Int.reduceSub, Int.reduceMul, q1, e]; try refine okTr_and rfl ?_)
    exact FinK.finA r140 [0]
theorem ref24_Join (l : List En) (hl : l.length ≤ 1000000) (hn : (joinE l).length ≤ 100000000) : Ct Tryz.prog 140 [slE l] [] (fun n => ownA n (joinE l)) [] (fun _ => [.row 1 (joinE l).length]) := Ct.n (ref24_Join0 l hl hn) cl cl clo
end Go.Proofs.YtnfagphepkeedaaGreat
end
section
namespace Go.Proofs.YtnfagphepkeedaaGreat
open Go.RowKit

end Go.Proofs.YtnfagphepkeedaaGreat
end
section
section
namespace Go.Proofs.YtnfagphepkeedaaGreat
open Go.RowKit

theorem epoch_Right0 (e : Int) : Does Tryz.prog 72 [uA e] [] (bA (epRight e)) [] := by
  refine Does.runA Tryz.func72 b72 n72 Tryz.ntmps72 ?_; simp only [c72, go_sem, Nat.reduceAdd, Nat.reduceMul, Int.reduceToNat, Nat.reduceLeDiff, Int.reduceLE, Int.reduceLT, ↓reduceIte, Int.reduceBEq, Int.reduceBNe, Int.reduceAdd, Int.reduceSub, Int.reduceMul]; try refine okTr_and rfl ?_
  by_cases h1 : 1 ≤ e
  · have q : decide (1 ≤ e) = true := by simpa using h1
    (simp only [go_sem, Nat.reduceAdd, Nat.reduceMul, Int.reduceToNat, Nat.reduceLeDiff, Int.reduceLE, Int.reduceLT, ↓reduceIte, Int.reduceBEq, Int.reduceBNe, Int.reduceAdd, Int.reduceSub, Int.reduceMul, q]; try refine okTr_and rfl ?_)
    ((refine FinK.finB r72 [] ?_ ?_); (· first | with_reducible rfl | (simp [epRight, q]; done) | rfl); (· simp [resAL, resA1, loadA, oneOr, epRight, q]))
  · have q : decide (1 ≤ e) = false := by simpa using h1
    (simp only [go_sem, Nat.reduceAdd, Nat.reduceMul, Int.reduceToNat, Nat.reduceLeDiff, Int.reduceLE, Int.reduceLT, ↓reduceIte, Int.reduceBEq, Int.reduceBNe, Int.reduceAdd, Int.reduceSub, Int.reduceMul, q]; try refine okTr_and rfl ?_)
    ((refine FinK.finB r72 [] ?_ ?_); (· first | with_reducible rfl | (simp [epRight, q]; done) | rfl); (· simp [resAL, resA1, loadA, oneOr, epRight, q]))
theorem epoch_Right (e : Int) : Ct Tryz.prog 72 [uA e] [] (fun _ => bA (epRight e)) [] (fun _ => []) := (epoch_Right0 e).toCt clo clo
theorem ref17_Right0 (e : Int) : Does Tryz.prog 76 [uA e] [] (bA (epRight e)) [] := by
  refine Does.runA Tryz.func76 b76 n76 Tryz.ntmps76 ?_; simp only [c76, go_sem, Nat.reduceAdd, Nat.reduceMul, Int.reduceToNat, Nat.reduceLeDiff, Int.reduceLE, Int.reduceLT, ↓reduceIte, Int.reduceBEq, Int.reduceBNe, Int.reduceAdd, Int.reduceSub, Int.reduceMul]; try refine okTr_and rfl ?_
  by_cases h1 : 0 < e
  · have q : decide (0 < e) = true := by simpa using h1
    have q2 : decide (e ≤ 4611686018427387903) = epRight e := by unfold epRight; rw [Bool.eq_iff_iff]; simp; omega
    (simp only [go_sem, Nat.reduceAdd, Nat.reduceMul, Int.reduceToNat, Nat.reduceLeDiff, Int.reduceLE, Int.reduceLT, ↓reduceIte, Int.reduceBEq, Int.reduceBNe, Int.reduceAdd, Int.reduceSub, Int.reduceMul, q, q2]; try refine okTr_and rfl ?_)
    exact FinK.finA r76 []
  · have q : decide (0 < e) = false := by simpa using h1
    have q2 : epRight e = false := by unfold epRight; simp; omega
    (simp only [go_sem, Nat.reduceAdd, Nat.reduceMul, Int.reduceToNat, Nat.reduceLeDiff, Int.reduceLE, Int.reduceLT, ↓reduceIte, Int.reduceBEq, Int.reduceBNe, Int.reduceAdd, Int.reduceSub, Int.reduceMul, q, q2]; try refine okTr_and rfl ?_)
    ((refine FinK.finB r76 [] ?_ ?_); (· first | with_reducible rfl | (simp [q2]; done) | rfl); (· simp [resAL, resA1, loadA, oneOr, q2]))
theorem ref17_Right (e : Int) : Ct Tryz.prog 76 [uA e] [] (fun _ => bA (epRight e)) [] (fun _ => []) := (ref17_Right0 e).toCt clo clo
theorem epoch_Pos0 (e : Int) : Does Tryz.prog 131 [uA e] [] (bA (epPos e)) [] := by
  refine Does.runA Tryz.func131 b131 n131 Tryz.ntmps131 ?_; simp only [c131, go_sem, Nat.reduceAdd, Nat.reduceMul, Int.reduceToNat, Nat.reduceLeDiff, Int.reduceLE, Int.reduceLT, ↓reduceIte, Int.reduceBEq, Int.reduceBNe, Int.reduceAdd, Int.reduceSub, Int.reduceMul]; try refine okTr_and rfl ?_
  ((refine FinK.finB r131 [] ?_ ?_); (· first | with_reducible rfl | (simp [epPos]; done) | rfl); (· simp [resAL, resA1, loadA, oneOr, epPos]))
theorem epoch_Pos (e : Int) : Ct Tryz.prog 131 [uA e] [] (fun _ => bA (epPos e)) [] (fun _ => []) := (epoch_Pos0 e).toCt clo clo
theorem ref17_Pos0 (e : Int) : Does Tryz.prog 132 [uA e] [] (bA (epPos e)) [] := by
  have q : decide (e ≤ 4611686018427387903) = epPos e := by unfold epPos; rw [Bool.eq_iff_iff]; simp; omega
  refine Does.runA Tryz.func132 b132 n132 Tryz.ntmps132 ?_; simp only [c132, go_sem, Nat.reduceAdd, Nat.reduceMul, Int.reduceToNat, Nat.reduceLeDiff, Int.reduceLE, Int.reduceLT, ↓reduceIte, Int.reduceBEq, Int.reduceBNe, Int.reduceAdd, Int.reduceSub, Int.reduceMul, q]; try refine okTr_and rfl ?_
  exact FinK.finA r132 []
theorem ref17_Pos (e : Int) : Ct Tryz.prog 132 [uA e] [] (fun _ => bA (epPos e)) [] (fun _ => []) := (ref17_Pos0 e).toCt clo clo
theorem fail_bad {s : RS} (h : ¬ s.code = 0) (c a : Int) : s.fail c a = s := by unfold RS.fail; rw [if_neg h]
theorem fail_good {s : RS} (h : s.code = 0) (a : Int) : (s.fail 3 a).good = false := by unfold RS.fail RS.good; rw [if_pos h]; simp [flt]
theorem epoch_read0 (f : FuncId) (ok : Int → Bool) (hf : ∀ x, Ct Tryz.prog f [uA x] [] (fun _ => bA (ok x)) [] (fun _ => [])) (s : RS) (hs : ROk s) : Does Tryz.prog 162 [.ref 0 0, .fn f [] []] [rdr s] (uA (s.epo ok).2) [rdr (s.epo ok).1] := by
  refine Does.runA Tryz.func162 b162 n162 Tryz.ntmps162 ?_; simp only [c162, go_sem, Nat.reduceAdd, Nat.reduceMul, Int.reduceToNat, Nat.reduceLeDiff, Int.reduceLE, Int.reduceLT, ↓reduceIte, Int.reduceBEq, Int.reduceBNe, Int.reduceAdd, Int.reduceSub, Int.reduceMul]; try refine okTr_and rfl ?_
  refine CallK.r1 (Reader_At s 0) rfl ?_
  (simp only [go_sem, Nat.reduceAdd, Nat.reduceMul, Int.reduceToNat, Nat.reduceLeDiff, Int.reduceLE, Int.reduceLT, ↓reduceIte, Int.reduceBEq, Int.reduceBNe, Int.reduceAdd, Int.reduceSub, Int.reduceMul]; try refine okTr_and rfl ?_)
  refine CallK.u1 (varint_Read s 0 hs.ok hs.bys) rfl ?_
  (simp only [go_sem, Nat.reduceAdd, Nat.reduceMul, Int.reduceToNat, Nat.reduceLeDiff, Int.reduceLE, Int.reduceLT, ↓reduceIte, Int.reduceBEq, Int.reduceBNe, Int.reduceAdd, Int.reduceSub, Int.reduceMul]; try refine okTr_and rfl ?_)
  refine CallK.p (hf s.vint.2) ?_
  (simp only [go_sem, Nat.reduceAdd, Nat.reduceMul, Int.reduceToNat, Nat.reduceLeDiff, Int.reduceLE, Int.reduceLT, ↓reduceIte, Int.reduceBEq, Int.reduceBNe, Int.reduceAdd, Int.reduceSub, Int.reduceMul]; try refine okTr_and rfl ?_)
  by_cases hc : s.vint.1.code = 0
  · by_cases ho : ok s.vint.2 = true
    · have hg : s.vint.1.good = true := by simp [RS.good, hc]
      (simp only [go_sem, Nat.reduceAdd, Nat.reduceMul, Int.reduceToNat, Nat.reduceLeDiff, Int.reduceLE, Int.reduceLT, ↓reduceIte, Int.reduceBEq, Int.reduceBNe, Int.reduceAdd, Int.reduceSub, Int.reduceMul, ho]; try refine okTr_and rfl ?_)
      refine CallK.r1 (Reader_Good _ 0) rfl ?_
      (simp only [go_sem, Nat.reduceAdd, Nat.reduceMul, Int.reduceToNat, Nat.reduceLeDiff, Int.reduceLE, Int.reduceLT, ↓reduceIte, Int.reduceBEq, Int.reduceBNe, Int.reduceAdd, Int.reduceSub, Int.reduceMul, hg]; try refine okTr_and rfl ?_)
      ((refine FinK.finB r162 [0] ?_ ?_); (· first | with_reducible rfl | (simp [RS.epo, hc, ho]; done) | rfl); (· simp [resAL, resA1, loadA, oneOr, RS.epo, hc, ho]))
    · have hg := fail_good hc s.at_
      have ho' : ok s.vint.2 = false := by simpa using ho
      (simp only [go_sem, Nat.reduceAdd, Nat.reduceMul, Int.reduceToNat, Nat.reduceLeDiff, Int.reduceLE, Int.reduceLT, ↓reduceIte, Int.reduceBEq, Int.reduceBNe, Int.reduceAdd, Int.reduceSub, Int.reduceMul, ho']; try refine okTr_and rfl ?_)
      refine CallK.u1 (Reader_Fail _ 3 _ 0) rfl ?_
      (simp only [go_sem, Nat.reduceAdd, Nat.reduceMul, Int.reduceToNat, Nat.reduceLeDiff, Int.reduceLE, Int.reduceLT, ↓reduceIte, Int.reduceBEq, Int.reduceBNe, Int.reduceAdd, Int.reduceSub, Int.reduceMul]; try refine okTr_and rfl ?_)
      refine CallK.r1 (Reader_Good _ 0) rfl ?_
      (simp only [go_sem, Nat.reduceAdd, Nat.reduceMul, Int.reduceToNat, Nat.reduceLeDiff, Int.reduceLE, Int.reduceLT, ↓reduceIte, Int.reduceBEq, Int.reduceBNe, Int.reduceAdd, Int.reduceSub, Int.reduceMul, hg]; try refine okTr_and rfl ?_)
      ((refine FinK.finB r162 [0] ?_ ?_); (· first | with_reducible rfl | (simp [RS.epo, hc, ho']; done) | rfl); (· simp [resAL, resA1, loadA, oneOr, RS.epo, hc, ho']))
  · have hg : s.vint.1.good = false := by simp [RS.good, hc]
    have hfl := fail_bad hc 3 s.at_
    refine cdK_split (fun h => ?_) (fun h => ?_)
    · (simp only [go_sem, Nat.reduceAdd, Nat.reduceMul, Int.reduceToNat, Nat.reduceLeDiff, Int.reduceLE, Int.reduceLT, ↓reduceIte, Int.reduceBEq, Int.reduceBNe, Int.reduceAdd, Int.reduceSub, Int.reduceMul]; try refine okTr_and rfl ?_)
      refine CallK.u1 (Reader_Fail _ 3 _ 0) rfl ?_
      (simp only [go_sem, Nat.reduceAdd, Nat.reduceMul, Int.reduceToNat, Nat.reduceLeDiff, Int.reduceLE, Int.reduceLT, ↓reduceIte, Int.reduceBEq, Int.reduceBNe, Int.reduceAdd, Int.reduceSub, Int.reduceMul]; try refine okTr_and rfl ?_)
      refine CallK.r1 (Reader_Good _ 0) rfl ?_
      (simp only [go_sem, Nat.reduceAdd, Nat.reduceMul, Int.reduceToNat, Nat.reduceLeDiff, Int.reduceLE, Int.reduceLT, ↓reduceIte, Int.reduceBEq, Int.reduceBNe, Int.reduceAdd, Int.reduceSub, Int.reduceMul, hfl, hg]; try refine okTr_and rfl ?_)
      ((refine FinK.finB r162 [0] ?_ ?_); (· first | with_reducible rfl | (simp [RS.epo, hc, hfl]; done) | rfl); (· simp [resAL, resA1, loadA, oneOr, RS.epo, hc, hfl]))
    · (simp only [go_sem, Nat.reduceAdd, Nat.reduceMul, Int.reduceToNat, Nat.reduceLeDiff, Int.reduceLE, Int.reduceLT, ↓reduceIte, Int.reduceBEq, Int.reduceBNe, Int.reduceAdd, Int.reduceSub, Int.reduceMul]; try refine okTr_and rfl ?_)
      refine CallK.r1 (Reader_Good _ 0) rfl ?_
      (simp only [go_sem, Nat.reduceAdd, Nat.reduceMul, Int.reduceToNat, Nat.reduceLeDiff, Int.reduceLE, Int.reduceLT, ↓reduceIte, Int.reduceBEq, Int.reduceBNe, Int.reduceAdd, Int.reduceSub, Int.reduceMul, hg]; try refine okTr_and rfl ?_)
      ((refine FinK.finB r162 [0] ?_ ?_); (· first | with_reducible rfl | (simp [RS.epo, hc]; done) | rfl); (· simp [resAL, resA1, loadA, oneOr, RS.epo, hc]))
theorem epoch_read (f : FuncId) (ok : Int → Bool) (hf : ∀ x, Ct Tryz.prog f [uA x] [] (fun _ => bA (ok x)) [] (fun _ => [])) (s : RS) (i : Nat) (hs : ROk s) : Ct Tryz.prog 162 [.ref i 0, .fn f [] []] [(i, rdr s)] (fun _ => uA (s.epo ok).2) [(i, rdr (s.epo ok).1)] (fun _ => []) := Ct.u1 (epoch_read0 f ok hf s hs) i clo (fun ρ => rdr_ren ρ s) (fun ρ => rdr_ren ρ _) (rdr_dead s) clo
theorem epoch_Read0 (s : RS) (hs : ROk s) : Does Tryz.prog 119 [.ref 0 0] [rdr s] (uA (s.epo epRight).2) [rdr (s.epo epRight).1] := by
  refine Does.runA Tryz.func119 b119 n119 Tryz.ntmps119 ?_; simp only [c119, go_sem, Nat.reduceAdd, Nat.reduceMul, Int.reduceToNat, Nat.reduceLeDiff, Int.reduceLE, Int.reduceLT, ↓reduceIte, Int.reduceBEq, Int.reduceBNe, Int.reduceAdd, Int.reduceSub, Int.reduceMul]; try refine okTr_and rfl ?_
  refine CallK.u1 (epoch_read _ epRight epoch_Right s 0 hs) rfl ?_
  (simp only [go_sem, Nat.reduceAdd, Nat.reduceMul, Int.reduceToNat, Nat.reduceLeDiff, Int.reduceLE, Int.reduceLT, ↓reduceIte, Int.reduceBEq, Int.reduceBNe, Int.reduceAdd, Int.reduceSub, Int.reduceMul]; try refine okTr_and rfl ?_)
  exact FinK.finA r119 [0]
theorem epoch_Read (s : RS) (i : Nat) (hs : ROk s) : Ct Tryz.prog 119 [.ref i 0] [(i, rdr s)] (fun _ => uA (s.epo epRight).2) [(i, rdr (s.epo epRight).1)] (fun _ => []) := Ct.u1 (epoch_Read0 s hs) i clo (fun ρ => rdr_ren ρ s) (fun ρ => rdr_ren ρ _) (rdr_dead s) clo
theorem epoch_ReadPos0 (s : RS) (hs : ROk s) : Does Tryz.prog 120 [.ref 0 0] [rdr s] (uA (s.epo epPos).2) [rdr (s.epo epPos).1] := by
  refine Does.runA Tryz.func120 b120 n120 Tryz.ntmps120 ?_; simp only [c120, go_sem, Nat.reduceAdd, Nat.reduceMul, Int.reduceToNat, Nat.reduceLeDiff, Int.reduceLE, Int.reduceLT, ↓reduceIte, Int.reduceBEq, Int.reduceBNe, Int.reduceAdd, Int.reduceSub, Int.reduceMul]; try refine okTr_and rfl ?_
  refine CallK.u1 (epoch_read _ epPos epoch_Pos s 0 hs) rfl ?_
  (simp only [go_sem, Nat.reduceAdd, Nat.reduceMul, Int.reduceToNat, Nat.reduceLeDiff, Int.reduceLE, Int.reduceLT, ↓reduceIte, Int.reduceBEq, Int.reduceBNe, Int.reduceAdd, Int.reduceSub, Int.reduceMul]; try refine okTr_and rfl ?_)
  exact FinK.finA r120 [0]
theorem epoch_ReadPos (s : RS) (i : Nat) (hs : ROk s) : Ct Tryz.prog 120 [.ref i 0] [(i, rdr s)] (fun _ => uA (s.epo epPos).2) [(i, rdr (s.epo epPos).1)] (fun _ => []) := Ct.u1 (epoch_ReadPos0 s hs) i clo (fun ρ => rdr_ren ρ s) (fun ρ => rdr_ren ρ _) (rdr_dead s) clo
end Go.Proofs.YtnfagphepkeedaaGreat
end
end
section
section
namespace Go.Proofs.YtnfagphepkeedaaGreat

structure Tk where
  lit : List Int
  off : Int
  len : Int
deriving DecidableEq
def Tk.run (t : Tk) : Bool := decide (t.off = 0 ∧ t.len = 0 ∧ 1 ≤ t.lit.length ∧ t.lit.length ≤ 1048576)
def Tk.copy (t : Tk) : Bool := decide (t.lit.length = 0 ∧ 1 ≤ t.off ∧ t.off ≤ 65536 ∧ 4 ≤ t.len ∧ t.len ≤ 1048576)
def Tk.right (t : Tk) : Bool := t.run || t.copy
def Tk.made (t : Tk) : Int := if t.run = true then t.lit.length else if t.copy = true then t.len else 0
/-- What a token in memory is: its bytes are bytes, its numbers fit. -/
structure Tk.ok (t : Tk) : Prop where
  lit : Bys t.lit
  off0 : -9223372036854775808 ≤ t.off
  off1 : t.off < 9223372036854775808
  len0 : -9223372036854775808 ≤ t.len
  len1 : t.len < 9223372036854775808
end Go.Proofs.YtnfagphepkeedaaGreat
end
end
section
namespace Go.Proofs.YtnfagphepkeedaaGreat

section
variable {β : Type} {F : Fmt β}
/-- Things read till nothing is left, or one can't be read. -/
def Fmt.all (F : Fmt β) : Nat → RS → List β → RS × List β
  | 0, s, acc => (s, acc)
  | n + 1, s, acc => if s.code = 0 ∧ 0 < s.left then (if (F.f s acc).1.code = 0 then F.all n (F.f s acc).1 (acc ++ [(F.f s acc).2]) else ((F.f s acc).1, [])) else (s, acc)
theorem left_ge {s : RS} (h : ROk s) : 0 ≤ s.left := by have := h.at1; unfold RS.left; omega
theorem all_done {n : Nat} {s : RS} {acc : List β} (h : ¬ (s.code = 0 ∧ 0 < s.left)) : F.all n s acc = (s, acc) := by
  cases n with
  | zero => rfl
  | succ n => rw [Fmt.all, if_neg h]
theorem all_more (hF : F.Ok) : ∀ (n m : Nat) (s : RS) (acc : List β), ROk s → Wf F.nx [] acc → s.left ≤ n → s.left ≤ m → F.all n s acc = F.all m s acc := by
  intro n
  induction n with
  | zero => intro m s acc h _ h1 h2; rw [all_done (n := m) (by omega)]; rfl
  | succ n ih =>
    intro m s acc h hw h1 h2
    by_cases hc : s.code = 0 ∧ 0 < s.left
    · obtain ⟨k, rfl⟩ : ∃ k, m = k + 1 := ⟨m - 1, by omega⟩
      rw [Fmt.all, Fmt.all, if_pos hc, if_pos hc]
      by_cases hn : (F.f s acc).1.code = 0
      · rw [if_pos hn, if_pos hn]
        obtain ⟨k1, k2⟩ := hF.keep s acc h hw
        obtain ⟨r1, r2, r3, r4⟩ := hF.read s acc h hw hn
        have hl : (F.f s acc).1.left < s.left := by unfold RS.left; rw [k2]; omega
        exact ih k _ _ k1 (wf_snoc.2 ⟨hw, by simpa using r2⟩) (by omega) (by omega)
      · rw [if_neg hn, if_neg hn]
    · rw [all_done hc, all_done hc]
/-- All that is left. -/
def Fmt.rest (F : Fmt β) (s : RS) (acc : List β) : RS × List β := F.all s.left.toNat s acc
theorem rest_step (hF : F.Ok) {s : RS} {acc : List β} (h : ROk s) (hw : Wf F.nx [] acc) (hc : s.code = 0) (hl : 0 < s.left) (hn : (F.f s acc).1.code = 0) : F.rest s acc = F.rest (F.f s acc).1 (acc ++ [(F.f s acc).2]) := by
  obtain ⟨k1, k2⟩ := hF.keep s acc h hw
  obtain ⟨r1, r2, r3, r4⟩ := hF.read s acc h hw hn
  have hl2 : (F.f s acc).1.left < s.left := by unfold RS.left; rw [k2]; omega
  have hge := left_ge k1
  unfold Fmt.rest
  obtain ⟨k, hk⟩ : ∃ k, s.left.toNat = k + 1 := ⟨s.left.toNat - 1, by omega⟩
  rw [hk, Fmt.all, if_pos ⟨hc, hl⟩, if_pos hn]
  exact all_more hF _ _ _ _ k1 (wf_snoc.2 ⟨hw, by simpa using r2⟩) (by omega) (by omega)
/-- What is borne at each round. -/
structure Fmt.Al (F : Fmt β) (s : RS) (a : RS × List β) : Prop where
  ok : ROk a.1
  l : a.1.l = s.l
  adv : (a.2.length : Int) ≤ a.1.at_
  code : a.1.code = 0
  wf : Wf F.nx [] a.2
  res : F.rest a.1 a.2 = F.rest s []
  byt : s.l.take a.1.at_.toNat = s.l.take s.at_.toNat ++ encs F.enc [] a.2
theorem Fmt.Al.start {s : RS} (h : ROk s) (hc : s.code = 0) : F.Al s (s, []) := ⟨h, rfl, by simpa using h.at0, hc, trivial, rfl, by simp [encs]⟩
theorem Fmt.Al.next {s t : RS} {acc : List β} (hF : F.Ok) (h : F.Al s (t, acc)) (hl : 0 < t.left) (hc : (F.f t acc).1.code = 0) : F.Al s ((F.f t acc).1, acc ++ [(F.f t acc).2]) ∧ (F.f t acc).1.left < t.left := by
  obtain ⟨h1, h2, h3, h4, h5, h6, h7⟩ := h
  simp only at h1 h2 h3 h4 h5 h6 h7
  obtain ⟨k1, k2⟩ := hF.keep t acc h1 h5
  obtain ⟨r1, r2, r3, r4⟩ := hF.read t acc h1 h5 hc
  refine ⟨⟨k1, k2.trans h2, by simp; omega, hc, wf_snoc.2 ⟨h5, by simpa using r2⟩, ?_, ?_⟩, by unfold RS.left; rw [k2]; omega⟩
  · rw [← h6]; exact (rest_step hF h1 h5 h4 hl hc).symm
  · rw [h2] at r4
    rw [r4, h7, encs_snoc]
    simp
theorem Fmt.Al.len {s t : RS} {acc : List β} (h : F.Al s (t, acc)) : acc.length ≤ s.l.length := by
  have h1 := h.ok.at1
  have h2 := h.l
  have h3 := h.adv
  simp only at h1 h2 h3
  rw [h2] at h1
  omega
end

end Go.Proofs.YtnfagphepkeedaaGreat
end
section
namespace Go.Proofs.YtnfagphepkeedaaGreat
open Go.RowKit

/-- A token, tokens. -/
abbrev tkA (t : Tk) : AV := .agg [slA .u8 t.lit, iA t.off, iA t.len]
def tks (l : List Tk) : List AV := l.map tkA
@[simp] theorem ren_tks (ρ : Nat → Nat) (l : List Tk) : (tks l).map (fun x => x.ren ρ) = tks l := by simp [tks, ixs_z]
@[simp] theorem ren_ints_t (ρ : Nat → Nat) (k : IntKind) (l : List Int) : (ints k l).map (fun x => x.ren ρ) = ints k l := ren_ints ρ k l
end Go.Proofs.YtnfagphepkeedaaGreat
end
section
namespace Go.Proofs.YtnfagphepkeedaaGreat
open Go.RowKit

end Go.Proofs.YtnfagphepkeedaaGreat
end
section
namespace Go.Proofs.YtnfagphepkeedaaGreat

end Go.Proofs.YtnfagphepkeedaaGreat
end
section
namespace Go.Proofs.YtnfagphepkeedaaGreat
open Go.RowKit

end Go.Proofs.YtnfagphepkeedaaGreat
end
section
namespace Go.Proofs.YtnfagphepkeedaaGreat
open Go.RowKit

end Go.Proofs.YtnfagphepkeedaaGreat
end
section
namespace Go.Proofs.YtnfagphepkeedaaGreat
open Go.RowKit

end Go.Proofs.YtnfagphepkeedaaGreat
end
section
namespace Go.Proofs.YtnfagphepkeedaaGreat
open Go.RowKit

abbrev oA (x : O1) : AV := .agg [uA x.st, uA x.bk, bA x.hb, slA .u8 x.data]
def o1s (l : List O1) : List AV := l.map oA
abbrev slO (l : List O1) : AV := .sl .none 4 (o1s l)
abbrev sg1A (u : Sg1) : AV := .agg [uA u.ep, uA u.base, slO u.en]
abbrev sg1O (u : Sg1) : AObj := .cells [uA u.ep, uA u.base, slO u.en]
theorem o1s_length (l : List O1) : (o1s l).length = l.length := by simp [o1s]
theorem o1s_nil : o1s [] = [] := (rfl)
theorem o1s_get (l : List O1) (k : Nat) (h : k < l.length) : (o1s l).getD k .any = oA (l.getD k o10) := by simp [o1s, h]
theorem o1s_snoc (l : List O1) (x : O1) : o1s l ++ [oA x] = o1s (l ++ [x]) := by simp [o1s]
@[simp] theorem ren_o1s (ρ : Nat → Nat) (l : List O1) : (o1s l).map (fun x => x.ren ρ) = o1s l := by
  simp [o1s, Function.comp_def, ixs_z, ren_ints]
theorem sg1O_ren (u : Sg1) (ρ : Nat → Nat) : (sg1O u).ren ρ = sg1O u := by simp [ixs_z]
structure Small1 (u : Sg1) : Prop where
  b0 : 0 ≤ u.base
  b1 : u.base < 18446744073709551616
  n : u.en.length ≤ 1000000
  s : sumO u.en ≤ 100000000000
theorem legacy_numbered0 (base n : Int) (b0 : 0 ≤ base) (b1 : base < 18446744073709551616) (n0 : 0 ≤ n) (n1 : n ≤ 1000000000) : Does Tryz.prog 73 [uA base, iA n] [] (bA (fitsB base n)) [] := by
  have w0 : IntKind.u64.wrap n = n := IntWalk.u64_in _ (by omega)
  refine Does.runA Tryz.func73 b73 n73 Tryz.ntmps73 ?_; simp only [c73, go_sem, Nat.reduceAdd, Nat.reduceMul, Int.reduceToNat, Nat.reduceLeDiff, Int.reduceLE, Int.reduceLT, ↓reduceIte, Int.reduceBEq, Int.reduceBNe, Int.reduceAdd, Int.reduceSub, Int.reduceMul]; try refine okTr_and rfl ?_
  refine CallK.p (epoch_Pos base) ?_
  by_cases h : base < 4611686018427387904
  · have e : epPos base = true := epPos_iff.2 h
    have w1 : IntKind.u64.wrap (base + n) = base + n := IntWalk.u64_in _ (by omega)
    have ef : decide (base + n ≤ 4611686018427387904) = fitsB base n := by unfold fitsB; rw [decide_eq_true h]; rfl
    (simp only [go_sem, Nat.reduceAdd, Nat.reduceMul, Int.reduceToNat, Nat.reduceLeDiff, Int.reduceLE, Int.reduceLT, ↓reduceIte, Int.reduceBEq, Int.reduceBNe, Int.reduceAdd, Int.reduceSub, Int.reduceMul, e, w0, w1, ef]; try refine okTr_and rfl ?_)
    exact FinK.finA r73 []
  · have e : epPos base = false := by unfold epPos; exact decide_eq_false h
    have ef : fitsB base n = false := by unfold fitsB; rw [decide_eq_false h]; rfl
    (simp only [go_sem, Nat.reduceAdd, Nat.reduceMul, Int.reduceToNat, Nat.reduceLeDiff, Int.reduceLE, Int.reduceLT, ↓reduceIte, Int.reduceBEq, Int.reduceBNe, Int.reduceAdd, Int.reduceSub, Int.reduceMul, e]; try refine okTr_and rfl ?_)
    ((refine FinK.finB r73 [] ?_ ?_); (· first | with_reducible rfl | (simp [ef]; done) | rfl); (· simp [resAL, resA1, loadA, oneOr, ef]))
theorem legacy_numbered (base n : Int) (b0 : 0 ≤ base) (b1 : base < 18446744073709551616) (n0 : 0 ≤ n) (n1 : n ≤ 1000000000) : Ct Tryz.prog 73 [uA base, iA n] [] (fun _ => bA (fitsB base n)) [] (fun _ => []) := (legacy_numbered0 base n b0 b1 n0 n1).toCt cl cl
theorem ref35_fits0 (base n : Int) (b0 : 0 ≤ base) (b1 : base < 18446744073709551616) (n0 : 0 ≤ n) (n1 : n ≤ 1000000000) : Does Tryz.prog 77 [uA base, iA n] [] (bA (fitsB base n)) [] := by
  have w0 : IntKind.u64.wrap n = n := IntWalk.u64_in _ (by omega)
  refine Does.runA Tryz.func77 b77 n77 Tryz.ntmps77 ?_; simp only [c77, go_sem, Nat.reduceAdd, Nat.reduceMul, Int.reduceToNat, Nat.reduceLeDiff, Int.reduceLE, Int.reduceLT, ↓reduceIte, Int.reduceBEq, Int.reduceBNe, Int.reduceAdd, Int.reduceSub, Int.reduceMul]; try refine okTr_and rfl ?_
  refine CallK.p (ref17_Pos base) ?_
  by_cases h : base < 4611686018427387904
  · have e : epPos base = true := epPos_iff.2 h
    have w1 : IntKind.u64.wrap (4611686018427387904 - base) = 4611686018427387904 - base := IntWalk.u64_in _ (by omega)
    have ef : decide (n ≤ 4611686018427387904 - base) = fitsB base n := by
      unfold fitsB; rw [decide_eq_true h, Bool.true_and]
      by_cases h2 : n ≤ 4611686018427387904 - base
      · rw [decide_eq_true h2, decide_eq_true (by omega)]
      · rw [decide_eq_false h2, decide_eq_false (by omega)]
    (simp only [go_sem, Nat.reduceAdd, Nat.reduceMul, Int.reduceToNat, Nat.reduceLeDiff, Int.reduceLE, Int.reduceLT, ↓reduceIte, Int.reduceBEq, Int.reduceBNe, Int.reduceAdd, Int.reduceSub, Int.reduceMul, e, w0, w1, ef]; try refine okTr_and rfl ?_)
    exact FinK.finA r77 []
  · have e : epPos base = false := by unfold epPos; exact decide_eq_false h
    have ef : fitsB base n = false := by unfold fitsB; rw [decide_eq_false h]; rfl
    (simp only [go_sem, Nat.reduceAdd, Nat.reduceMul, Int.reduceToNat, Nat.reduceLeDiff, Int.reduceLE, Int.reduceLT, ↓reduceIte, Int.reduceBEq, Int.reduceBNe, Int.reduceAdd, Int.reduceSub, Int.reduceMul, e]; try refine okTr_and rfl ?_)
    ((refine FinK.finB r77 [] ?_ ?_); (· first | with_reducible rfl | (simp [ef]; done) | rfl); (· simp [resAL, resA1, loadA, oneOr, ef]))
theorem ref35_fits (base n : Int) (b0 : 0 ≤ base) (b1 : base < 18446744073709551616) (n0 : 0 ≤ n) (n1 : n ≤ 1000000000) : Ct Tryz.prog 77 [uA base, iA n] [] (fun _ => bA (fitsB base n)) [] (fun _ => []) := (ref35_fits0 base n b0 b1 n0 n1).toCt cl cl
theorem legacy_total0 (l : List O1) (hn : l.length ≤ 1000000) (hs : sumO l ≤ 100000000000) : Does Tryz.prog 67 [slO l] [] (iA (sumO l)) [] := by
  refine Does.runA Tryz.func67 b67 n67 Tryz.ntmps67 ?_; simp only [c67, go_sem, Nat.reduceAdd, Nat.reduceMul, Int.reduceToNat, Nat.reduceLeDiff, Int.reduceLE, Int.reduceLT, ↓reduceIte, Int.reduceBEq, Int.reduceBNe, Int.reduceAdd, Int.reduceSub, Int.reduceMul, o1s_length]; try refine okTr_and rfl ?_
  refine loop_of (α := Nat) (fun k => [.any, .any, .any, iA (sumO (l.take k)), .any, .any, slO l, iA l.length, iA k, .any, .any, .any, .any, .any, .any, .any, .any, .any, .any]) (fun _ => []) (fun k => k ≤ l.length) (fun k => l.length - k) 0 (by simp) (Wk.to (by simp) (by simp [leT, sumO])) ?_
  intro k hk
  (simp only [go_sem, Nat.reduceAdd, Nat.reduceMul, Int.reduceToNat, Nat.reduceLeDiff, Int.reduceLE, Int.reduceLT, ↓reduceIte, Int.reduceBEq, Int.reduceBNe, Int.reduceAdd, Int.reduceSub, Int.reduceMul]; try refine okTr_and rfl ?_)
  by_cases hlt : k < l.length
  · have q1 : decide ((k : Int) < (l.length : Int)) = true := decide_eq_true (by omega)
    have ek := i64_succ k (by omega)
    have g := o1s_get l k hlt
    have st := sumO_take l k hlt
    have le := sumO_le l (k + 1)
    have ge := sumO_ge (l.take k)
    have w : IntKind.i64.wrap (sumO (l.take k) + ((l.getD k o10).data.length : Int)) = sumO (l.take (k + 1)) := by rw [IntWalk.i64_in _ (by omega)]; omega
    (simp only [go_sem, Nat.reduceAdd, Nat.reduceMul, Int.reduceToNat, Nat.reduceLeDiff, Int.reduceLE, Int.reduceLT, ↓reduceIte, Int.reduceBEq, Int.reduceBNe, Int.reduceAdd, Int.reduceSub, Int.reduceMul, q1, g, o1s_length, Int.toNat_natCast, ints_length, w, ek]; try refine okTr_and rfl ?_)
    (repeat ((with_reducible refine And.intro ?_ ?_); (· exact sd)))
    exact ⟨k + 1, hlt, by omega, Wk.sel [] (by simp) rfl (by simp) rfl (by simp) (by simp [selT, ixs_z])⟩
  · have q1 : decide ((k : Int) < (l.length : Int)) = false := decide_eq_false (by omega)
    have e : l.take k = l := List.take_of_length_le (by omega)
    (simp only [go_sem, Nat.reduceAdd, Nat.reduceMul, Int.reduceToNat, Nat.reduceLeDiff, Int.reduceLE, Int.reduceLT, ↓reduceIte, Int.reduceBEq, Int.reduceBNe, Int.reduceAdd, Int.reduceSub, Int.reduceMul, q1]; try refine okTr_and rfl ?_)
    ((refine FinK.finB r67 [] ?_ ?_); (· first | with_reducible rfl | (simp [e]; done) | rfl); (· simp [resAL, resA1, loadA, oneOr, e]))
theorem legacy_total (l : List O1) (hn : l.length ≤ 1000000) (hs : sumO l ≤ 100000000000) : Ct Tryz.prog 67 [slO l] [] (fun _ => iA (sumO l)) [] (fun _ => []) := (legacy_total0 l hn hs).toCt cl cl
def goodAt (u : Sg1) (k : Nat) (x : O1) : Bool := goodO (IntKind.u64.wrap (u.base + k)) x
theorem legacy_Right110 (u : Sg1) (k : Nat) (x : O1) (hk : k ≤ 1000000) : Does Tryz.prog 75 [iA k, oA x, .ref 0 0] [sg1O u] (bA (goodAt u k x)) [sg1O u] := by
  have w0 : IntKind.u64.wrap (k : Int) = k := IntWalk.u64_in _ (by omega)
  refine Does.runA Tryz.func75 b75 n75 Tryz.ntmps75 ?_; simp only [c75, go_sem, Nat.reduceAdd, Nat.reduceMul, Int.reduceToNat, Nat.reduceLeDiff, Int.reduceLE, Int.reduceLT, ↓reduceIte, Int.reduceBEq, Int.reduceBNe, Int.reduceAdd, Int.reduceSub, Int.reduceMul]; try refine okTr_and rfl ?_
  cases hb : x.hb with
  | true =>
    have e : decide (x.bk < IntKind.u64.wrap (u.base + k)) = goodAt u k x := by unfold goodAt goodO; rw [hb]; rfl
    cases h : decide (x.bk < IntKind.u64.wrap (u.base + k)) with
    | true =>
      rw [h] at e
      (simp only [go_sem, Nat.reduceAdd, Nat.reduceMul, Int.reduceToNat, Nat.reduceLeDiff, Int.reduceLE, Int.reduceLT, ↓reduceIte, Int.reduceBEq, Int.reduceBNe, Int.reduceAdd, Int.reduceSub, Int.reduceMul, hb, w0, h]; try refine okTr_and rfl ?_)
      ((refine FinK.finB r75 [0] ?_ ?_); (· first | with_reducible rfl | (simp [← e]; done) | rfl); (· simp [resAL, resA1, loadA, oneOr, ← e]))
    | false =>
      rw [h] at e
      (simp only [go_sem, Nat.reduceAdd, Nat.reduceMul, Int.reduceToNat, Nat.reduceLeDiff, Int.reduceLE, Int.reduceLT, ↓reduceIte, Int.reduceBEq, Int.reduceBNe, Int.reduceAdd, Int.reduceSub, Int.reduceMul, hb, w0, h]; try refine okTr_and rfl ?_)
      ((refine FinK.finB r75 [0] ?_ ?_); (· first | with_reducible rfl | (simp [← e]; done) | rfl); (· simp [resAL, resA1, loadA, oneOr, ← e]))
  | false =>
    have e : (x.bk == 0) = goodAt u k x := by
      unfold goodAt goodO; rw [hb]
      simp only [Bool.false_eq_true, if_false]
      rw [Bool.eq_iff_iff, beq_iff_eq, decide_eq_true_eq]
    (simp only [go_sem, Nat.reduceAdd, Nat.reduceMul, Int.reduceToNat, Nat.reduceLeDiff, Int.reduceLE, Int.reduceLT, ↓reduceIte, Int.reduceBEq, Int.reduceBNe, Int.reduceAdd, Int.reduceSub, Int.reduceMul, hb, e]; try refine okTr_and rfl ?_)
    exact FinK.finA r75 [0]
theorem legacy_Right11 (u : Sg1) (k : Nat) (x : O1) (hk : k ≤ 1000000) (i : Nat) : Ct Tryz.prog 75 [iA k, oA x, .ref i 0] [(i, sg1O u)] (fun _ => bA (goodAt u k x)) [] (fun _ => []) :=
  Ct.r1 (legacy_Right110 u k x hk) i cl (sg1O_ren u) (by simp) clo
/-- Do all of some things, each by its place, pass? -/
def allO (ok : Nat → O1 → Bool) (l : List O1) : Bool := (List.range l.length).all fun i => ok i (l.getD i o10)
theorem allO_iff {ok : Nat → O1 → Bool} {l : List O1} : allO ok l = true ↔ ∀ i, i < l.length → ok i (l.getD i o10) = true := by
  simp only [allO, List.all_eq_true, List.mem_range]
theorem legacy_allO0 (f : FuncId) (o : AObj) (ok : Nat → O1 → Bool) (ho : ∀ ρ, o.ren ρ = o) (hd : o ≠ .dead) (l : List O1) (hf : ∀ k, k < l.length → ∀ i, Ct Tryz.prog f [iA k, oA (l.getD k o10), .ref i 0] [(i, o)] (fun _ => bA (ok k (l.getD k o10))) [] (fun _ => [])) (hn : l.length ≤ 1000000) :
    Does Tryz.prog 74 [slO l, .fn f [] [.ref 0 0]] [o] (bA (allO ok l)) [o] := by
  refine Does.runA Tryz.func74 b74 n74 Tryz.ntmps74 ?_; simp only [c74, go_sem, Nat.reduceAdd, Nat.reduceMul, Int.reduceToNat, Nat.reduceLeDiff, Int.reduceLE, Int.reduceLT, ↓reduceIte, Int.reduceBEq, Int.reduceBNe, Int.reduceAdd, Int.reduceSub, Int.reduceMul, o1s_length]; try refine okTr_and rfl ?_
  refine loop_of (α := Nat) (fun k => [slO l, .fn f [] [.ref 0 0], .any, .any, .any, .any, .any, slO l, iA l.length, iA k, .any, .any, .any, .any, .any, .any, .any, .any, .any, .any]) (fun _ => [o]) (fun k => k ≤ l.length ∧ ∀ i, i < k → ok i (l.getD i o10) = true) (fun k => l.length - k) 0 ⟨by simp, fun i hi => by omega⟩ (Wk.to (by simp) (by simp [leT])) ?_
  rintro k ⟨hk, hall⟩
  (simp only [go_sem, Nat.reduceAdd, Nat.reduceMul, Int.reduceToNat, Nat.reduceLeDiff, Int.reduceLE, Int.reduceLT, ↓reduceIte, Int.reduceBEq, Int.reduceBNe, Int.reduceAdd, Int.reduceSub, Int.reduceMul]; try refine okTr_and rfl ?_)
  by_cases hlt : k < l.length
  · have q1 : decide ((k : Int) < (l.length : Int)) = true := decide_eq_true (by omega)
    have ek := i64_succ k (by omega)
    have g := o1s_get l k hlt
    have hfx := hf k hlt 0
    (simp only [go_sem, Nat.reduceAdd, Nat.reduceMul, Int.reduceToNat, Nat.reduceLeDiff, Int.reduceLE, Int.reduceLT, ↓reduceIte, Int.reduceBEq, Int.reduceBNe, Int.reduceAdd, Int.reduceSub, Int.reduceMul, q1, g, o1s_length, Int.toNat_natCast]; try refine okTr_and rfl ?_)
    (repeat ((with_reducible refine And.intro ?_ ?_); (· exact sd)))
    refine CallK.r1 (hfx) rfl ?_
    cases hs : ok k (l.getD k o10) with
    | false =>
      have e : allO ok l = false := by
        cases ha : allO ok l with
        | false => rfl
        | true => rw [allO_iff.1 ha k hlt] at hs; cases hs
      (simp only [go_sem, Nat.reduceAdd, Nat.reduceMul, Int.reduceToNat, Nat.reduceLeDiff, Int.reduceLE, Int.reduceLT, ↓reduceIte, Int.reduceBEq, Int.reduceBNe, Int.reduceAdd, Int.reduceSub, Int.reduceMul, hs]; try refine okTr_and rfl ?_)
      ((refine FinK.finB r74 [0] ?_ ?_); (· first | with_reducible rfl | (simp [e, ho]; done) | rfl); (· simp [resAL, resA1, loadA, oneOr, e, ho]))
    | true =>
      (simp only [go_sem, Nat.reduceAdd, Nat.reduceMul, Int.reduceToNat, Nat.reduceLeDiff, Int.reduceLE, Int.reduceLT, ↓reduceIte, Int.reduceBEq, Int.reduceBNe, Int.reduceAdd, Int.reduceSub, Int.reduceMul, hs, ek]; try refine okTr_and rfl ?_)
      exact ⟨k + 1, ⟨hlt, fun i hi => by
        rcases Nat.lt_or_ge i k with h | h
        · exact hall i h
        · obtain rfl : i = k := by omega
          exact hs⟩, by omega, Wk.sel [0] (by simp) rfl (by simp) rfl (by simp [ho]) (by simp [selT, ixs_z])⟩
  · have q1 : decide ((k : Int) < (l.length : Int)) = false := decide_eq_false (by omega)
    have e : allO ok l = true := allO_iff.2 fun i hi => hall i (by omega)
    (simp only [go_sem, Nat.reduceAdd, Nat.reduceMul, Int.reduceToNat, Nat.reduceLeDiff, Int.reduceLE, Int.reduceLT, ↓reduceIte, Int.reduceBEq, Int.reduceBNe, Int.reduceAdd, Int.reduceSub, Int.reduceMul, q1]; try refine okTr_and rfl ?_)
    ((refine FinK.finB r74 [0] ?_ ?_); (· first | with_reducible rfl | (simp [e, ho]; done) | rfl); (· simp [resAL, resA1, loadA, oneOr, e, ho]))
theorem legacy_allO (f : FuncId) (o : AObj) (ok : Nat → O1 → Bool) (ho : ∀ ρ, o.ren ρ = o) (hd : o ≠ .dead) (l : List O1) (hf : ∀ k, k < l.length → ∀ i, Ct Tryz.prog f [iA k, oA (l.getD k o10), .ref i 0] [(i, o)] (fun _ => bA (ok k (l.getD k o10))) [] (fun _ => [])) (hn : l.length ≤ 1000000) (i : Nat) :
    Ct Tryz.prog 74 [slO l, .fn f [] [.ref i 0]] [(i, o)] (fun _ => bA (allO ok l)) [] (fun _ => []) := Ct.r1 (legacy_allO0 f o ok ho hd l hf hn) i cl ho hd clo
theorem right1_no {u : Sg1} (h : epRight u.ep = false ∨ 400 < u.en.length ∨ fitsB u.base u.en.length = false ∨ 1048576 < sumO u.en) : right1 u = false := by
  cases hr : right1 u with
  | false => rfl
  | true =>
    exfalso
    unfold right1 at hr
    simp only [Bool.and_eq_true, decide_eq_true_eq] at hr
    obtain ⟨⟨⟨⟨a, b⟩, c⟩, d⟩, e⟩ := hr
    rcases h with h | h | h | h
    · rw [h] at a; cases a
    · omega
    · rw [h] at c; cases c
    · omega
theorem right1_yes {u : Sg1} (b0 : 0 ≤ u.base) (h1 : epRight u.ep = true) (h2 : u.en.length ≤ 400) (h3 : fitsB u.base u.en.length = true) (h4 : sumO u.en ≤ 1048576) : right1 u = allO (goodAt u) u.en := by
  obtain ⟨f1, f2⟩ := fitsB_iff.1 h3
  have key : ∀ i, i < u.en.length → goodAt u i (u.en.getD i o10) = goodO (u.base + i) (u.en.getD i o10) := fun i hi => by
    unfold goodAt; rw [IntWalk.u64_in _ (by omega)]
  rw [Bool.eq_iff_iff, right1_iff, allO_iff]
  constructor
  · rintro ⟨_, _, _, _, h5⟩ i hi
    rw [key i hi]; exact h5 i hi
  · intro h5
    exact ⟨epRight_iff.1 h1, h2, ⟨f1, f2⟩, h4, fun i hi => by rw [← key i hi]; exact h5 i hi⟩
theorem legacy_Right10 (u : Sg1) (hs : Small1 u) : Does Tryz.prog 16 [sg1A u] [] (bA (right1 u)) [] := by
  obtain ⟨b0, b1, n1, s1⟩ := hs
  refine Does.runA Tryz.func16 b16 n16 Tryz.ntmps16 ?_; simp only [c16, go_sem, Nat.reduceAdd, Nat.reduceMul, Int.reduceToNat, Nat.reduceLeDiff, Int.reduceLE, Int.reduceLT, ↓reduceIte, Int.reduceBEq, Int.reduceBNe, Int.reduceAdd, Int.reduceSub, Int.reduceMul]; try refine okTr_and rfl ?_
  refine CallK.p (epoch_Right u.ep) ?_
  cases h1 : epRight u.ep with
  | false =>
    have e := right1_no (u := u) (.inl h1)
    (simp only [go_sem, Nat.reduceAdd, Nat.reduceMul, Int.reduceToNat, Nat.reduceLeDiff, Int.reduceLE, Int.reduceLT, ↓reduceIte, Int.reduceBEq, Int.reduceBNe, Int.reduceAdd, Int.reduceSub, Int.reduceMul, h1]; try refine okTr_and rfl ?_)
    ((refine FinK.finB r16 [] ?_ ?_); (· first | with_reducible rfl | (simp [e]; done) | rfl); (· simp [resAL, resA1, loadA, oneOr, e]))
  | true =>
    by_cases h2 : u.en.length ≤ 400
    · have q2 : decide (400 < (u.en.length : Int)) = false := decide_eq_false (by omega)
      (simp only [go_sem, Nat.reduceAdd, Nat.reduceMul, Int.reduceToNat, Nat.reduceLeDiff, Int.reduceLE, Int.reduceLT, ↓reduceIte, Int.reduceBEq, Int.reduceBNe, Int.reduceAdd, Int.reduceSub, Int.reduceMul, h1, o1s_length, q2]; try refine okTr_and rfl ?_)
      refine CallK.p (legacy_numbered u.base u.en.length b0 b1 (by omega) (by omega)) ?_
      cases h3 : fitsB u.base u.en.length with
      | false =>
        have e := right1_no (u := u) (.inr (.inr (.inl h3)))
        (simp only [go_sem, Nat.reduceAdd, Nat.reduceMul, Int.reduceToNat, Nat.reduceLeDiff, Int.reduceLE, Int.reduceLT, ↓reduceIte, Int.reduceBEq, Int.reduceBNe, Int.reduceAdd, Int.reduceSub, Int.reduceMul, h3]; try refine okTr_and rfl ?_)
        ((refine FinK.finB r16 [] ?_ ?_); (· first | with_reducible rfl | (simp [e]; done) | rfl); (· simp [resAL, resA1, loadA, oneOr, e]))
      | true =>
        (simp only [go_sem, Nat.reduceAdd, Nat.reduceMul, Int.reduceToNat, Nat.reduceLeDiff, Int.reduceLE, Int.reduceLT, ↓reduceIte, Int.reduceBEq, Int.reduceBNe, Int.reduceAdd, Int.reduceSub, Int.reduceMul, h3]; try refine okTr_and rfl ?_)
        refine CallK.p (legacy_total u.en n1 s1) ?_
        by_cases h4 : sumO u.en ≤ 1048576
        · have q4 : decide (1048576 < sumO u.en) = false := decide_eq_false (by omega)
          have e := right1_yes b0 h1 h2 h3 h4
          (simp only [go_sem, Nat.reduceAdd, Nat.reduceMul, Int.reduceToNat, Nat.reduceLeDiff, Int.reduceLE, Int.reduceLT, ↓reduceIte, Int.reduceBEq, Int.reduceBNe, Int.reduceAdd, Int.reduceSub, Int.reduceMul, q4]; try refine okTr_and rfl ?_)
          refine CallK.r1 (legacy_allO 75 (sg1O u) (goodAt u) (sg1O_ren u) (by simp) u.en (fun k hk i => legacy_Right11 u k _ (by omega) i) n1 _) rfl ?_; (simp only [go_sem, Nat.reduceAdd, Nat.reduceMul, Int.reduceToNat, Nat.reduceLeDiff, Int.reduceLE, Int.reduceLT, ↓reduceIte, Int.reduceBEq, Int.reduceBNe, Int.reduceAdd, Int.reduceSub, Int.reduceMul, ← e]; try refine okTr_and rfl ?_)
          exact FinK.finA r16 []
        · have q4 : decide (1048576 < sumO u.en) = true := decide_eq_true (by omega)
          have e := right1_no (u := u) (.inr (.inr (.inr (by omega))))
          (simp only [go_sem, Nat.reduceAdd, Nat.reduceMul, Int.reduceToNat, Nat.reduceLeDiff, Int.reduceLE, Int.reduceLT, ↓reduceIte, Int.reduceBEq, Int.reduceBNe, Int.reduceAdd, Int.reduceSub, Int.reduceMul, q4]; try refine okTr_and rfl ?_)
          ((refine FinK.finB r16 [] ?_ ?_); (· first | with_reducible rfl | (simp [e]; done) | rfl); (· simp [resAL, resA1, loadA, oneOr, e]))
    · have q2 : decide (400 < (u.en.length : Int)) = true := decide_eq_true (by omega)
      have e := right1_no (u := u) (.inr (.inl (by omega)))
      (simp only [go_sem, Nat.reduceAdd, Nat.reduceMul, Int.reduceToNat, Nat.reduceLeDiff, Int.reduceLE, Int.reduceLT, ↓reduceIte, Int.reduceBEq, Int.reduceBNe, Int.reduceAdd, Int.reduceSub, Int.reduceMul, h1, o1s_length, q2]; try refine okTr_and rfl ?_)
      ((refine FinK.finB r16 [] ?_ ?_); (· first | with_reducible rfl | (simp [e]; done) | rfl); (· simp [resAL, resA1, loadA, oneOr, e]))
theorem legacy_Right1 (u : Sg1) (hs : Small1 u) : Ct Tryz.prog 16 [sg1A u] [] (fun _ => bA (right1 u)) [] (fun _ => []) := (legacy_Right10 u hs).toCt cl cl
end Go.Proofs.YtnfagphepkeedaaGreat
end
section
namespace Go.Proofs.YtnfagphepkeedaaGreat
open Go.RowKit

end Go.Proofs.YtnfagphepkeedaaGreat
end
section
namespace Go.Proofs.YtnfagphepkeedaaGreat
variable {P : Program} {S : List AObj} {K : KT} {f : FuncId} {args args₀ : List AV}

theorem Wa.any1 {x : AV} (hx : x.cells = [x]) : Wa x .any := one_cel hx rfl fun _ v _ => .any v
theorem Wa.anyL (v : Value) : Wa (.lit v) .any := Wa.any1 rfl
theorem Wa.anyS (t : Tag) (k : Nat) (xs : List AV) : Wa (.sl t k xs) .any := Wa.any1 rfl
theorem Ct.u3 {o₀ p₀ q₀ o₁ p₁ q₁ o p q o' p' q' : AObj} {r : AV} (h : Does P f args₀ [o₀, p₀, q₀] r [o₁, p₁, q₁]) (i j k : Nat) (hn : [i, j, k].Nodup) (ha : ∀ N, args₀.map (fun x => x.ren (ixs [i, j, k] N)) = args)
    (ho : ∀ N, o₀.ren (ixs [i, j, k] N) = o) (hp : ∀ N, p₀.ren (ixs [i, j, k] N) = p) (hq : ∀ N, q₀.ren (ixs [i, j, k] N) = q) (ho' : ∀ N, o₁.ren (ixs [i, j, k] N) = o') (hp' : ∀ N, p₁.ren (ixs [i, j, k] N) = p') (hq' : ∀ N, q₁.ren (ixs [i, j, k] N) = q')
    (hd : ∀ x ∈ [o₀, p₀, q₀], x ≠ .dead) (hr : ∀ ρ, r.ren ρ = r) :
    Ct P f args [(i, o), (j, p), (k, q)] (fun _ => r) [(i, o'), (j, p'), (k, q')] (fun _ => []) :=
  Ct.mk h [i, j, k] hn rfl (by simp) hd (fun n N => by simpa using ha N) (fun n N => hr _) (fun n N => by simp [ho, hp, hq]) (.inl fun n N => by simp [ho', hp', hq']) (fun n N => rfl)
theorem CallK.u3 {r : AV} {i j k : Nat} {o p q o' p' q' : AObj} (h : Ct P f (args.map Proofs.YtnfagphepkeedaaGreat.untag) [(i, o), (j, p), (k, q)] (fun _ => r) [(i, o'), (j, p'), (k, q')] (fun _ => [])) (hS : S[i]? = some o) (hS' : S[j]? = some p) (hS'' : S[k]? = some q)
    (hK : K r [i, j, k] [(i, o'), (j, p'), (k, q')] []) : CallK P f args S K := CallK.of h.untag (by simp [hS, hS', hS'']) (by simp) hK
theorem Ct.u4 {o₀ p₀ q₀ s₀ o₁ p₁ q₁ s₁ o p q s o' p' q' s' : AObj} {r : AV} (h : Does P f args₀ [o₀, p₀, q₀, s₀] r [o₁, p₁, q₁, s₁]) (i j k l : Nat) (hn : [i, j, k, l].Nodup) (ha : ∀ N, args₀.map (fun x => x.ren (ixs [i, j, k, l] N)) = args)
    (ho : ∀ N, o₀.ren (ixs [i, j, k, l] N) = o) (hp : ∀ N, p₀.ren (ixs [i, j, k, l] N) = p) (hq : ∀ N, q₀.ren (ixs [i, j, k, l] N) = q) (hs : ∀ N, s₀.ren (ixs [i, j, k, l] N) = s) (ho' : ∀ N, o₁.ren (ixs [i, j, k, l] N) = o') (hp' : ∀ N, p₁.ren (ixs [i, j, k, l] N) = p') (hq' : ∀ N, q₁.ren (ixs [i, j, k, l] N) = q') (hs' : ∀ N, s₁.ren (ixs [i, j, k, l] N) = s')
    (hd : ∀ x ∈ [o₀, p₀, q₀, s₀], x ≠ .dead) (hr : ∀ ρ, r.ren ρ = r) :
    Ct P f args [(i, o), (j, p), (k, q), (l, s)] (fun _ => r) [(i, o'), (j, p'), (k, q'), (l, s')] (fun _ => []) :=
  Ct.mk h [i, j, k, l] hn rfl (by simp) hd (fun n N => by simpa using ha N) (fun n N => hr _) (fun n N => by simp [ho, hp, hq, hs]) (.inl fun n N => by simp [ho', hp', hq', hs']) (fun n N => rfl)
theorem CallK.u4 {r : AV} {i j k l : Nat} {o p q s o' p' q' s' : AObj} (h : Ct P f (args.map Proofs.YtnfagphepkeedaaGreat.untag) [(i, o), (j, p), (k, q), (l, s)] (fun _ => r) [(i, o'), (j, p'), (k, q'), (l, s')] (fun _ => [])) (hS : S[i]? = some o) (hS' : S[j]? = some p) (hS'' : S[k]? = some q) (hS3 : S[l]? = some s)
    (hK : K r [i, j, k, l] [(i, o'), (j, p'), (k, q'), (l, s')] []) : CallK P f args S K := CallK.of h.untag (by simp [hS, hS', hS'', hS3]) (by simp) hK
end Go.Proofs.YtnfagphepkeedaaGreat
end
section
namespace Go.Proofs.YtnfagphepkeedaaGreat
open Go.RowKit

abbrev wA (n : Nat) : AV := .lit (.int .u32 (n : Int))
theorem u32_nat (n : Nat) (h : n < 4294967296) : IntKind.u32.wrap (n : Int) = n := IntWalk.u32_in _ (by omega)
theorem step_eq (c : Nat) : cstep c = if c % 2 = 1 then (c / 2) ^^^ 2197175160 else c / 2 := rfl
theorem crc_step0 (c : Nat) (hc : c < 4294967296) : Does Tryz.prog 179 [wA c] [] (wA (cstep c)) [] := by
  have e1 := and1 c hc
  have e2 : (c : Int).fdiv (2 ^ min 1 32) = ((c / 2 : Nat) : Int) := shr32 c 1
  have e3 := xor32 (c / 2) 2197175160 (by omega) (by omega)
  refine Does.runA Tryz.func179 b179 n179 Tryz.ntmps179 ?_; simp only [c179, go_sem, Nat.reduceAdd, Nat.reduceMul, Int.reduceToNat, Nat.reduceLeDiff, Int.reduceLE, Int.reduceLT, ↓reduceIte, Int.reduceBEq, Int.reduceBNe, Int.reduceAdd, Int.reduceSub, Int.reduceMul, e1, e2]; try refine okTr_and rfl ?_
  by_cases h : c % 2 = 1
  · have q : (((c % 2 : Nat) : Int) == 1) = true := by rw [h]; rfl
    have e : cstep c = (c / 2) ^^^ 2197175160 := by rw [step_eq, if_pos h]
    have e3' : bitsI .xor .u32 ((c / 2 : Nat) : Int) 2197175160 = ((c / 2 ^^^ 2197175160 : Nat) : Int) := e3
    (simp only [go_sem, Nat.reduceAdd, Nat.reduceMul, Int.reduceToNat, Nat.reduceLeDiff, Int.reduceLE, Int.reduceLT, ↓reduceIte, Int.reduceBEq, Int.reduceBNe, Int.reduceAdd, Int.reduceSub, Int.reduceMul, q, e1, e2, e3']; try refine okTr_and rfl ?_)
    ((refine FinK.finB r179 [] ?_ ?_); (· first | with_reducible rfl | (simp [e]; done) | rfl); (· simp [resAL, resA1, loadA, oneOr, e]))
  · have q : (((c % 2 : Nat) : Int) == 1) = false := by simp only [beq_eq_false_iff_ne, ne_eq]; omega
    have e : cstep c = c / 2 := by rw [step_eq, if_neg h]
    (simp only [go_sem, Nat.reduceAdd, Nat.reduceMul, Int.reduceToNat, Nat.reduceLeDiff, Int.reduceLE, Int.reduceLT, ↓reduceIte, Int.reduceBEq, Int.reduceBNe, Int.reduceAdd, Int.reduceSub, Int.reduceMul, q, e1, e2]; try refine okTr_and rfl ?_)
    ((refine FinK.finB r179 [] ?_ ?_); (· first | with_reducible rfl | (simp [e]; done) | rfl); (· simp [resAL, resA1, loadA, oneOr, e]))
theorem crc_step (c : Nat) (hc : c < 4294967296) : Ct Tryz.prog 179 [wA c] [] (fun _ => wA (cstep c)) [] (fun _ => []) := (crc_step0 c hc).toCt cl cl
/-- What each half of a byte makes of the state, as far as it is filled in. -/
def tabN (k : Nat) : List AV := (List.range 16).map fun i => wA (if i < k then csteps 4 i else 0)
theorem tabN_len (k : Nat) : (tabN k).length = 16 := by simp [tabN]
theorem tabN_set (k : Nat) : (tabN k).set k (wA (csteps 4 k)) = tabN (k + 1) := by
  refine List.ext_getElem? fun i => ?_
  rw [List.getElem?_set]
  by_cases h : k = i
  · subst h
    rw [if_pos rfl]
    by_cases hk : k < 16
    · rw [if_pos (by simpa [tabN] using hk)]; simp [tabN, hk]
    · rw [if_neg (by simpa [tabN] using hk)]; simp [tabN, hk]
  · rw [if_neg h]
    by_cases hk : i < 16
    · have : (i < k + 1) = (i < k) := by rw [eq_iff_iff]; omega
      simp [tabN, hk, this]
    · simp [tabN, hk]
@[simp] theorem tabN_ren (ρ : Nat → Nat) (k : Nat) : (tabN k).map (fun x => x.ren ρ) = tabN k := by simp [tabN, ixs_z]
def tab : List AV := tabN 16
theorem tab_get (i : Nat) (h : i < 16) : tab[i]? = some (wA (csteps 4 i)) := by
  simp [tab, tabN, h]
theorem csteps_snoc (n : Nat) : ∀ c, csteps (n + 1) c = cstep (csteps n c) := by
  intro c
  have := csteps_add n 1 c
  rw [this]; rfl
theorem splice_eq (xs : List AV) (o : Nat) (cs : List AV) (h : o + cs.length ≤ xs.length) : splice xs o cs = xs.take o ++ cs ++ xs.drop (o + cs.length) := by
  refine List.ext_getElem? fun j => ?_
  rw [splice_get xs o cs h, List.append_assoc, List.getElem?_append, List.length_take, show min o xs.length = o by omega]
  by_cases h1 : j < o
  · rw [if_neg (by omega), if_pos h1, List.getElem?_take, if_pos h1]
  · rw [if_neg h1, List.getElem?_append]
    by_cases h2 : j - o < cs.length
    · rw [if_pos (by omega), if_pos h2]
    · rw [if_neg (by omega), if_neg h2, List.getElem?_drop]; congr 1; omega
@[simp] theorem tab_ren (ρ : Nat → Nat) : tab.map (fun x => x.ren ρ) = tab := tabN_ren ρ 16
set_option maxRecDepth 100000 in
theorem crc_table0 : Does Tryz.prog 159 [] [] (.agg tab) [] := by
  refine Does.runA Tryz.func159 b159 n159 Tryz.ntmps159 ?_; simp only [c159, go_sem, Nat.reduceAdd, Nat.reduceMul, Int.reduceToNat, Nat.reduceLeDiff, Int.reduceLE, Int.reduceLT, ↓reduceIte, Int.reduceBEq, Int.reduceBNe, Int.reduceAdd, Int.reduceSub, Int.reduceMul]; try refine okTr_and rfl ?_
  refine loop_of (α := Nat) (fun k => [.ref 0 0, .ref 1 0, .any, .any, iA k, .any, .any, .any, .any, .any, .any, .any, .any, .any, .any, .any, .any, .any, .any]) (fun k => [.cells (tabN 0), .cells (tabN k)]) (fun k => k ≤ 16) (fun k => 16 - k) 0 (by simp) (Wk.to (by rfl) (by simp [leT])) ?_
  intro k hk
  (simp only [go_sem, Nat.reduceAdd, Nat.reduceMul, Int.reduceToNat, Nat.reduceLeDiff, Int.reduceLE, Int.reduceLT, ↓reduceIte, Int.reduceBEq, Int.reduceBNe, Int.reduceAdd, Int.reduceSub, Int.reduceMul]; try refine okTr_and rfl ?_)
  refine cdK_split (fun h => ?_) (fun h => ?_)
  · have hlt : k < 16 := by simp at h; omega
    have ek := i64_succ k (by omega)
    have ec := u32_nat k (by omega)
    (simp only [go_sem, Nat.reduceAdd, Nat.reduceMul, Int.reduceToNat, Nat.reduceLeDiff, Int.reduceLE, Int.reduceLT, ↓reduceIte, Int.reduceBEq, Int.reduceBNe, Int.reduceAdd, Int.reduceSub, Int.reduceMul, ec]; try refine okTr_and rfl ?_)
    refine loop_of (α := Nat) (fun j => [.ref 0 0, .ref 1 0, iA k, wA (csteps j k), iA k, .any, .any, .any, .any, iA j, .any, .any, .any, .any, .any, .any, .any, .any, .any]) (fun j => [.cells (tabN 0), .cells (tabN k)]) (fun j => j ≤ 4) (fun j => 4 - j) 0 (by simp) (Wk.to (by rfl) (by simp [leT, csteps])) ?_
    intro j hj
    (simp only [go_sem, Nat.reduceAdd, Nat.reduceMul, Int.reduceToNat, Nat.reduceLeDiff, Int.reduceLE, Int.reduceLT, ↓reduceIte, Int.reduceBEq, Int.reduceBNe, Int.reduceAdd, Int.reduceSub, Int.reduceMul]; try refine okTr_and rfl ?_)
    refine cdK_split (fun h => ?_) (fun h => ?_)
    · have hj4 : j < 4 := by simp at h; omega
      have ej := i64_succ j (by omega)
      have hs := csteps_snoc j k
      (simp only [go_sem, Nat.reduceAdd, Nat.reduceMul, Int.reduceToNat, Nat.reduceLeDiff, Int.reduceLE, Int.reduceLT, ↓reduceIte, Int.reduceBEq, Int.reduceBNe, Int.reduceAdd, Int.reduceSub, Int.reduceMul]; try refine okTr_and rfl ?_)
      refine CallK.p (crc_step (csteps j k) (csteps_lt j (by omega))) ?_; (simp only [go_sem, Nat.reduceAdd, Nat.reduceMul, Int.reduceToNat, Nat.reduceLeDiff, Int.reduceLE, Int.reduceLT, ↓reduceIte, Int.reduceBEq, Int.reduceBNe, Int.reduceAdd, Int.reduceSub, Int.reduceMul, ej]; try refine okTr_and rfl ?_)
      exact ⟨j + 1, by omega, by omega, Wk.to (by rfl) (by simp [leT, hs])⟩
    · have ej : j = 4 := by simp at h; omega
      subst ej
      (simp only [go_sem, Nat.reduceAdd, Nat.reduceMul, Int.reduceToNat, Nat.reduceLeDiff, Int.reduceLE, Int.reduceLT, ↓reduceIte, Int.reduceBEq, Int.reduceBNe, Int.reduceAdd, Int.reduceSub, Int.reduceMul, Int.toNat_natCast, tabN_len, Nat.mul_one, ek, tabN_set]; try refine okTr_and rfl ?_)
      (repeat ((with_reducible refine And.intro ?_ ?_); (· exact sd)))
      exact ⟨k + 1, by omega, by omega, Wk.to (by simp) (by simp [leT])⟩
  · have ek : k = 16 := by simp at h; omega
    subst ek
    have etk : List.take 16 (tabN 16) = tabN 16 := List.take_of_length_le (by rw [tabN_len]; omega)
    have esp : splice (tabN 0) 0 (tabN 16) = tabN 16 := by
      rw [splice_eq _ 0 _ (by rw [tabN_len, tabN_len]; omega), tabN_len, List.drop_eq_nil_of_le (by rw [tabN_len]; omega)]; simp
    (simp only [go_sem, Nat.reduceAdd, Nat.reduceMul, Int.reduceToNat, Nat.reduceLeDiff, Int.reduceLE, Int.reduceLT, ↓reduceIte, Int.reduceBEq, Int.reduceBNe, Int.reduceAdd, Int.reduceSub, Int.reduceMul, tabN_len, etk, esp]; try refine okTr_and rfl ?_)
    (repeat ((with_reducible refine And.intro ?_ ?_); (· exact sd)))
    ((refine FinK.finB r159 [] ?_ ?_); (· first | with_reducible rfl | (simp [tab, tabN_len, etk]; done) | rfl); (· simp [resAL, resA1, loadA, oneOr, tab, tabN_len, etk]))
theorem crc_table : Ct Tryz.prog 159 [] [] (fun _ => .agg tab) [] (fun _ => []) := (crc_table0).toCt cl cl
theorem nats_take (l : List Int) (k : Nat) (h : k < l.length) : nats (l.take (k + 1)) = nats (l.take k) ++ [(l.getD k 0).toNat] := by
  rw [take_snoc l k h, nats_append]; rfl
theorem tab_len : tab.length = 16 := tabN_len 16
theorem tab_splice {xs : List AV} (h : xs.length = 16) : splice xs 0 tab = tab := by
  rw [splice_eq xs 0 tab (by rw [tab_len, h]; omega), tab_len, List.drop_eq_nil_of_le (by omega)]; simp
theorem half_eq (b : Nat) (hb : b < 4294967296) : bitsI .xor .u32 ((b / 16 : Nat) : Int) ((csteps 4 (b % 16) : Nat) : Int) = ((csteps 4 b : Nat) : Int) := by
  have := csteps_lt 4 (c := b % 16) (by omega)
  rw [xor32 (b / 16) (csteps 4 (b % 16)) (by omega) (by omega), ← csteps_half]
theorem xor_lt {a b : Nat} (ha : a < 4294967296) (hb : b < 4294967296) : a ^^^ b < 4294967296 := by
  have : a ^^^ b < 2 ^ 32 := Nat.xor_lt_two_pow (by omega) (by omega)
  omega
set_option maxRecDepth 100000 in
theorem crc_Add0 (c : Nat) (l : List Int) (hc : c < 4294967296) (hl : Bys l) (hn : l.length ≤ 140737488355328) : Does Tryz.prog 108 [wA c, slA .u8 l] [] (wA (crcA c (nats l))) [] := by
  refine Does.runA Tryz.func108 b108 n108 Tryz.ntmps108 ?_; simp only [c108, go_sem, Nat.reduceAdd, Nat.reduceMul, Int.reduceToNat, Nat.reduceLeDiff, Int.reduceLE, Int.reduceLT, ↓reduceIte, Int.reduceBEq, Int.reduceBNe, Int.reduceAdd, Int.reduceSub, Int.reduceMul]; try refine okTr_and rfl ?_
  refine CallK.p (crc_table) ?_; (simp only [go_sem, Nat.reduceAdd, Nat.reduceMul, Int.reduceToNat, Nat.reduceLeDiff, Int.reduceLE, Int.reduceLT, ↓reduceIte, Int.reduceBEq, Int.reduceBNe, Int.reduceAdd, Int.reduceSub, Int.reduceMul, ints_length, tab_len, tab_splice]; try refine okTr_and rfl ?_)
  (repeat ((with_reducible refine And.intro ?_ ?_); (· exact sd)))
  refine loop_of (α := Nat) (fun k => [wA (crcA c (nats (l.take k))), .any, .any, .any, .any, .ref 0 0, .any, .any, .any, slA .u8 l, iA l.length, iA k, .any, .any, .any, .any, .any, .any, .any, .any, .any, .any, .any, .any, .any, .any, .any, .any, .any, .any, .any, .any, .any, .any, .any]) (fun _ => [.cells tab]) (fun k => k ≤ l.length) (fun k => l.length - k) 0 (by simp) (Wk.to (by simp) (by simp [leT, nats, crcA])) ?_
  intro k hk
  (simp only [go_sem, Nat.reduceAdd, Nat.reduceMul, Int.reduceToNat, Nat.reduceLeDiff, Int.reduceLE, Int.reduceLT, ↓reduceIte, Int.reduceBEq, Int.reduceBNe, Int.reduceAdd, Int.reduceSub, Int.reduceMul]; try refine okTr_and rfl ?_)
  refine cdK_split (fun h => ?_) (fun h => ?_)
  · have hlt : k < l.length := by simpa using h
    have ek := i64_succ k (by omega)
    have g := u8_get l (k : Int) (by omega) (by omega)
    have hx := hl _ (getD_mem l k hlt)
    have hst := nats_take l k hlt
    have ha := crcA_lt hc (l := nats (l.take k)) (fun x hx => nats_lt hl x (by
      simp only [nats, List.mem_map] at hx ⊢
      obtain ⟨y, hy, rfl⟩ := hx
      exact ⟨y, List.mem_of_mem_take hy, rfl⟩))
    rw [Int.toNat_natCast] at g
    obtain ⟨x, hxe⟩ : ∃ x : Nat, l.getD k 0 = (x : Int) := ⟨(l.getD k 0).toNat, by omega⟩
    rw [hxe] at g hx hst
    rw [Int.toNat_natCast] at hst
    have he : crcA c (nats (l.take (k + 1))) = cinto (crcA c (nats (l.take k))) x := by rw [hst, crcA_snoc]
    obtain ⟨a, hae⟩ : ∃ a, crcA c (nats (l.take k)) = a := ⟨_, rfl⟩
    rw [hae] at ha he ⊢
    have hb := xor_lt ha (show x < 4294967296 by omega)
    have e0 := u32_nat x (by omega)
    have e1 := xor32 a x ha (by omega)
    obtain ⟨b, hbe⟩ : ∃ b, a ^^^ x = b := ⟨_, rfl⟩
    rw [hbe] at e1 hb
    have s1 : (b : Int).fdiv (2 ^ min 4 32) = ((b / 16 : Nat) : Int) := shr32 b 4
    have s2 := and15 b hb
    have s3 := half_eq b hb
    have t1 := tab_get (b % 16) (by omega)
    have hd := csteps_lt 4 hb
    obtain ⟨d, hde⟩ : ∃ d, csteps 4 b = d := ⟨_, rfl⟩
    rw [hde] at s3 hd
    have u1 : (d : Int).fdiv (2 ^ min 4 32) = ((d / 16 : Nat) : Int) := shr32 d 4
    have u2 := and15 d hd
    have u3 := half_eq d hd
    have t2 := tab_get (d % 16) (by omega)
    have hf : csteps 4 d = crcA c (nats (l.take (k + 1))) := by rw [he, cinto_half, hbe, hde]
    rw [hf] at u3
    (simp only [go_sem, Nat.reduceAdd, Nat.reduceMul, Int.reduceToNat, Nat.reduceLeDiff, Int.reduceLE, Int.reduceLT, ↓reduceIte, Int.reduceBEq, Int.reduceBNe, Int.reduceAdd, Int.reduceSub, Int.reduceMul, g, ints_length, Int.toNat_natCast, e0, e1, s1, s2, s3, t1, u1, u2, u3, t2, ek, Nat.mul_one]; try refine okTr_and rfl ?_)
    (repeat ((with_reducible refine And.intro ?_ ?_); (· exact sd)))
    exact ⟨k + 1, by omega, by omega, Wk.to (by simp) (by simp [leT])⟩
  · have ek : k = l.length := by simp at h; omega
    subst ek
    (simp only [go_sem, Nat.reduceAdd, Nat.reduceMul, Int.reduceToNat, Nat.reduceLeDiff, Int.reduceLE, Int.reduceLT, ↓reduceIte, Int.reduceBEq, Int.reduceBNe, Int.reduceAdd, Int.reduceSub, Int.reduceMul]; try refine okTr_and rfl ?_)
    ((refine FinK.finB r108 [] ?_ ?_); (· first | with_reducible rfl | (simp [List.take_length]; done) | rfl); (· simp [resAL, resA1, loadA, oneOr, List.take_length]))
theorem crc_Add (c : Nat) (l : List Int) (hc : c < 4294967296) (hl : Bys l) (hn : l.length ≤ 140737488355328) : Ct Tryz.prog 108 [wA c, slA .u8 l] [] (fun _ => wA (crcA c (nats l))) [] (fun _ => []) := (crc_Add0 c l hc hl hn).toCt cl cl
theorem crc_Begin0 : Does Tryz.prog 109 [] [] (wA 4294967295) [] := by
  refine Does.runA Tryz.func109 b109 n109 Tryz.ntmps109 ?_; simp only [c109, go_sem, Nat.reduceAdd, Nat.reduceMul, Int.reduceToNat, Nat.reduceLeDiff, Int.reduceLE, Int.reduceLT, ↓reduceIte, Int.reduceBEq, Int.reduceBNe, Int.reduceAdd, Int.reduceSub, Int.reduceMul]; try refine okTr_and rfl ?_
  exact FinK.finA r109 []
theorem crc_Begin : Ct Tryz.prog 109 [] [] (fun _ => wA 4294967295) [] (fun _ => []) := (crc_Begin0).toCt cl cl
theorem crc_End0 (c : Nat) (hc : c < 4294967296) : Does Tryz.prog 107 [wA c] [] (.lit (.int .u32 (4294967295 - (c : Int)))) [] := by
  have e : bitsI .xor .u32 (if IntKind.u32.signed then -1 else IntKind.u32.max) (c : Int) = 4294967295 - (c : Int) := not32 c hc
  refine Does.runA Tryz.func107 b107 n107 Tryz.ntmps107 ?_; simp only [c107, go_sem, Nat.reduceAdd, Nat.reduceMul, Int.reduceToNat, Nat.reduceLeDiff, Int.reduceLE, Int.reduceLT, ↓reduceIte, Int.reduceBEq, Int.reduceBNe, Int.reduceAdd, Int.reduceSub, Int.reduceMul, e]; try refine okTr_and rfl ?_
  exact FinK.finA r107 []
theorem crc_End (c : Nat) (hc : c < 4294967296) : Ct Tryz.prog 107 [wA c] [] (fun _ => .lit (.int .u32 (4294967295 - (c : Int)))) [] (fun _ => []) := (crc_End0 c hc).toCt cl cl
abbrev sumA (l : List Int) : AV := .lit (.int .u32 (crcI l))
theorem crc_Sum0 (l : List Int) (hl : Bys l) (hn : l.length ≤ 140737488355328) : Does Tryz.prog 37 [slA .u8 l] [] (sumA l) [] := by
  have h := crcA_lt (c := 4294967295) (by omega) (nats_lt hl)
  refine Does.runA Tryz.func37 b37 n37 Tryz.ntmps37 ?_; simp only [c37, go_sem, Nat.reduceAdd, Nat.reduceMul, Int.reduceToNat, Nat.reduceLeDiff, Int.reduceLE, Int.reduceLT, ↓reduceIte, Int.reduceBEq, Int.reduceBNe, Int.reduceAdd, Int.reduceSub, Int.reduceMul]; try refine okTr_and rfl ?_
  refine CallK.p (crc_Begin) ?_; (simp only [go_sem, Nat.reduceAdd, Nat.reduceMul, Int.reduceToNat, Nat.reduceLeDiff, Int.reduceLE, Int.reduceLT, ↓reduceIte, Int.reduceBEq, Int.reduceBNe, Int.reduceAdd, Int.reduceSub, Int.reduceMul]; try refine okTr_and rfl ?_)
  refine CallK.p (crc_Add 4294967295 l (by omega) hl hn) ?_; (simp only [go_sem, Nat.reduceAdd, Nat.reduceMul, Int.reduceToNat, Nat.reduceLeDiff, Int.reduceLE, Int.reduceLT, ↓reduceIte, Int.reduceBEq, Int.reduceBNe, Int.reduceAdd, Int.reduceSub, Int.reduceMul]; try refine okTr_and rfl ?_)
  refine CallK.p (crc_End (crcA 4294967295 (nats l)) h) ?_; (simp only [go_sem, Nat.reduceAdd, Nat.reduceMul, Int.reduceToNat, Nat.reduceLeDiff, Int.reduceLE, Int.reduceLT, ↓reduceIte, Int.reduceBEq, Int.reduceBNe, Int.reduceAdd, Int.reduceSub, Int.reduceMul]; try refine okTr_and rfl ?_)
  ((refine FinK.finB r37 [] ?_ ?_); (· first | with_reducible rfl | (simp [crcI]; done) | rfl); (· simp [resAL, resA1, loadA, oneOr, crcI]))
theorem crc_Sum (l : List Int) (hl : Bys l) (hn : l.length ≤ 140737488355328) : Ct Tryz.prog 37 [slA .u8 l] [] (fun _ => sumA l) [] (fun _ => []) := (crc_Sum0 l hl hn).toCt cl cl
theorem sum_u64 {l : List Int} (hl : Bys l) : IntKind.u64.wrap (crcI l) = crcI l := by
  have := crcI_range hl
  exact IntWalk.u64_in _ (by omega)
end Go.Proofs.YtnfagphepkeedaaGreat
end
section
namespace Go.Proofs.YtnfagphepkeedaaGreat
open Go.RowKit

theorem frame_Size0 (n : Int) (n1 : n ≤ 4611686018427387904) : Does Tryz.prog 133 [iA n] [] (iA (sizeF n)) [] := by
  have hv := (vb_len (max n 0)).2
  have e : IntKind.i64.wrap (((vb (max n 0)).length : Int) + max n 0 + 4) = sizeF n := IntWalk.i64_in _ (by omega)
  refine Does.runA Tryz.func133 b133 n133 Tryz.ntmps133 ?_; simp only [c133, go_sem, Nat.reduceAdd, Nat.reduceMul, Int.reduceToNat, Nat.reduceLeDiff, Int.reduceLE, Int.reduceLT, ↓reduceIte, Int.reduceBEq, Int.reduceBNe, Int.reduceAdd, Int.reduceSub, Int.reduceMul]; try refine okTr_and rfl ?_
  refine CallK.p (blob_Size n n1) ?_; (simp only [go_sem, Nat.reduceAdd, Nat.reduceMul, Int.reduceToNat, Nat.reduceLeDiff, Int.reduceLE, Int.reduceLT, ↓reduceIte, Int.reduceBEq, Int.reduceBNe, Int.reduceAdd, Int.reduceSub, Int.reduceMul, e]; try refine okTr_and rfl ?_)
  exact FinK.finA r133 []
theorem frame_Size (n : Int) (n1 : n ≤ 4611686018427387904) : Ct Tryz.prog 133 [iA n] [] (fun _ => iA (sizeF n)) [] (fun _ => []) := (frame_Size0 n n1).toCt cl cl
theorem frame_bound0 (m : Int) : Does Tryz.prog 117 [iA m] [] (iA (mfr m)) [] := by
  have e := mn m 2097152
  refine Does.runA Tryz.func117 b117 n117 Tryz.ntmps117 ?_; simp only [c117, go_sem, Nat.reduceAdd, Nat.reduceMul, Int.reduceToNat, Nat.reduceLeDiff, Int.reduceLE, Int.reduceLT, ↓reduceIte, Int.reduceBEq, Int.reduceBNe, Int.reduceAdd, Int.reduceSub, Int.reduceMul, e]; try refine okTr_and rfl ?_
  ((refine FinK.finB r117 [] ?_ ?_); (· first | with_reducible rfl | (simp [mfr]; done) | rfl); (· simp [resAL, resA1, loadA, oneOr, mfr]))
theorem frame_bound (m : Int) : Ct Tryz.prog 117 [iA m] [] (fun _ => iA (mfr m)) [] (fun _ => []) := (frame_bound0 m).toCt cl cl
/-- A writer behind a frame. -/
def WS.frame (s : WS) (p : List Int) : WS := if 2097152 < (p.length : Int) then s.fail 2 else ((s.put (vb p.length)).put p).put (lowBytes 4 (crcI p))
theorem WS.fine.frame {s : WS} (h : s.fine) (p : List Int) : (s.frame p).fine := by
  unfold WS.frame
  split
  · exact h.fail 2
  · exact ((h.put _).put _).put _
theorem frame_Put0 (s : WS) (p : List Int) (hs : s.fine) (hp : Bys p) (hn : p.length ≤ 140737488355328) : Does Tryz.prog 134 [.ref 0 0, slA .u8 p] [wob 1 s, wrow s] (.tup []) [wob 1 (s.frame p), wrow (s.frame p)] := by
  have hr := crcI_range hp
  have e := sum_u64 hp
  refine Does.runA Tryz.func134 b134 n134 Tryz.ntmps134 ?_; simp only [c134, go_sem, Nat.reduceAdd, Nat.reduceMul, Int.reduceToNat, Nat.reduceLeDiff, Int.reduceLE, Int.reduceLT, ↓reduceIte, Int.reduceBEq, Int.reduceBNe, Int.reduceAdd, Int.reduceSub, Int.reduceMul, ints_length]; try refine okTr_and rfl ?_
  by_cases h : 2097152 < (p.length : Int)
  · have q : decide (2097152 < (p.length : Int)) = true := by simpa using h
    (simp only [go_sem, Nat.reduceAdd, Nat.reduceMul, Int.reduceToNat, Nat.reduceLeDiff, Int.reduceLE, Int.reduceLT, ↓reduceIte, Int.reduceBEq, Int.reduceBNe, Int.reduceAdd, Int.reduceSub, Int.reduceMul, q]; try refine okTr_and rfl ?_)
    refine CallK.u2 (Writer_Fail s 2 0 1 (by decide)) rfl rfl ?_; (simp only [go_sem, Nat.reduceAdd, Nat.reduceMul, Int.reduceToNat, Nat.reduceLeDiff, Int.reduceLE, Int.reduceLT, ↓reduceIte, Int.reduceBEq, Int.reduceBNe, Int.reduceAdd, Int.reduceSub, Int.reduceMul]; try refine okTr_and rfl ?_)
    ((refine FinK.finB r134 [0, 1] ?_ ?_); (· first | with_reducible rfl | (simp [WS.frame, h]; done) | rfl); (· simp [resAL, resA1, loadA, oneOr, WS.frame, h]))
  · have q : decide (2097152 < (p.length : Int)) = false := by simpa using h
    have hf1 : ((s.put (vb p.length)).put p).fine := (hs.put _).put _
    (simp only [go_sem, Nat.reduceAdd, Nat.reduceMul, Int.reduceToNat, Nat.reduceLeDiff, Int.reduceLE, Int.reduceLT, ↓reduceIte, Int.reduceBEq, Int.reduceBNe, Int.reduceAdd, Int.reduceSub, Int.reduceMul, q]; try refine okTr_and rfl ?_)
    refine CallK.u2 (blob_Put s p 0 1 (by decide) hs hn) rfl rfl ?_; (simp only [go_sem, Nat.reduceAdd, Nat.reduceMul, Int.reduceToNat, Nat.reduceLeDiff, Int.reduceLE, Int.reduceLT, ↓reduceIte, Int.reduceBEq, Int.reduceBNe, Int.reduceAdd, Int.reduceSub, Int.reduceMul]; try refine okTr_and rfl ?_)
    refine CallK.p (crc_Sum p hp hn) ?_; (simp only [go_sem, Nat.reduceAdd, Nat.reduceMul, Int.reduceToNat, Nat.reduceLeDiff, Int.reduceLE, Int.reduceLT, ↓reduceIte, Int.reduceBEq, Int.reduceBNe, Int.reduceAdd, Int.reduceSub, Int.reduceMul, e]; try refine okTr_and rfl ?_)
    refine CallK.u2 (Writer_Fixed ((s.put (vb p.length)).put p) (crcI p) 4 0 1 (by decide) hr.1 (by omega) hf1) rfl rfl ?_; (simp only [go_sem, Nat.reduceAdd, Nat.reduceMul, Int.reduceToNat, Nat.reduceLeDiff, Int.reduceLE, Int.reduceLT, ↓reduceIte, Int.reduceBEq, Int.reduceBNe, Int.reduceAdd, Int.reduceSub, Int.reduceMul]; try refine okTr_and rfl ?_)
    ((refine FinK.finB r134 [0, 1] ?_ ?_); (· first | with_reducible rfl | (simp [WS.frame, h, show (min (max (4 : Int) 0) 8).toNat = 4 from rfl]; done) | rfl); (· simp [resAL, resA1, loadA, oneOr, WS.frame, h, show (min (max (4 : Int) 0) 8).toNat = 4 from rfl]))
theorem frame_Put (s : WS) (p : List Int) (i j : Nat) (h : i ≠ j) (hs : s.fine) (hp : Bys p) (hn : p.length ≤ 140737488355328) : Ct Tryz.prog 134 [.ref i 0, slA .u8 p] [(i, wob j s), (j, wrow s)] (fun _ => .tup []) [(i, wob j (s.frame p)), (j, wrow (s.frame p))] (fun _ => []) := Ct.u2 (frame_Put0 s p hs hp hn) i j h cl cl cl cl cl (wob_dead _ _) (wrow_dead _) clo
theorem frame_fit {s : WS} {p : List Int} (h : s.code = 0) (hp : p.length ≤ 2097152) (hm : (s.l.length : Int) + (frameB p).length ≤ s.most) : s.frame p = ⟨s.most, s.l ++ frameB p, 0⟩ := by
  have h4 := lowBytes_len 4 (crcI p)
  rw [frameB_len] at hm
  unfold blobB at hm
  rw [List.length_append] at hm
  unfold WS.frame
  rw [if_neg (by omega)]
  have e1 : s.put (vb p.length) = ⟨s.most, s.l ++ vb p.length, 0⟩ := by rw [WS.put_ok h (by omega)]; cases s; simp at h; simp [h]
  have e2 : (WS.mk s.most (s.l ++ vb p.length) 0).put p = ⟨s.most, s.l ++ vb p.length ++ p, 0⟩ := by rw [WS.put_ok rfl (by simp only [List.length_append]; omega)]
  have e3 : (WS.mk s.most (s.l ++ vb p.length ++ p) 0).put (lowBytes 4 (crcI p)) = ⟨s.most, s.l ++ vb p.length ++ p ++ lowBytes 4 (crcI p), 0⟩ := by rw [WS.put_ok rfl (by simp only [List.length_append]; omega)]
  rw [e1, e2, e3]
  simp [frameB, blobB]
theorem frame_Bytes0 (p : List Int) (hp : Bys p) (hn : p.length ≤ 2097152) : Does Tryz.prog 86 [slA .u8 p] [] (.tup [slA .u8 (frameB p), iA 0]) [] := by
  have hsz := sizeF_le p.length
  have hfr := sizeF_frame (p := p)
  have f0 : (WS.new (sizeF p.length)).fine := WS.fine.new (by omega)
  have hf := frame_fit (s := WS.new (sizeF p.length)) (p := p) rfl hn (by rw [WS.new_is (by omega)]; simp; omega)
  rw [WS.new_is (by omega)] at hf
  refine Does.runA Tryz.func86 b86 n86 Tryz.ntmps86 ?_; simp only [c86, go_sem, Nat.reduceAdd, Nat.reduceMul, Int.reduceToNat, Nat.reduceLeDiff, Int.reduceLE, Int.reduceLT, ↓reduceIte, Int.reduceBEq, Int.reduceBNe, Int.reduceAdd, Int.reduceSub, Int.reduceMul, ints_length]; try refine okTr_and rfl ?_
  refine CallK.p (frame_Size p.length (by omega)) ?_; (simp only [go_sem, Nat.reduceAdd, Nat.reduceMul, Int.reduceToNat, Nat.reduceLeDiff, Int.reduceLE, Int.reduceLT, ↓reduceIte, Int.reduceBEq, Int.reduceBNe, Int.reduceAdd, Int.reduceSub, Int.reduceMul]; try refine okTr_and rfl ?_)
  refine CallK.n (pen_New (sizeF p.length)) ?_; (simp only [go_sem, Nat.reduceAdd, Nat.reduceMul, Int.reduceToNat, Nat.reduceLeDiff, Int.reduceLE, Int.reduceLT, ↓reduceIte, Int.reduceBEq, Int.reduceBNe, Int.reduceAdd, Int.reduceSub, Int.reduceMul]; try refine okTr_and rfl ?_)
  refine CallK.u2 (frame_Put (WS.new (sizeF p.length)) p _ _ (by decide) f0 hp (by omega)) rfl rfl ?_; (simp only [go_sem, Nat.reduceAdd, Nat.reduceMul, Int.reduceToNat, Nat.reduceLeDiff, Int.reduceLE, Int.reduceLT, ↓reduceIte, Int.reduceBEq, Int.reduceBNe, Int.reduceAdd, Int.reduceSub, Int.reduceMul]; try refine okTr_and rfl ?_)
  have hfin := (f0.frame p).len
  refine CallK.r2 (Writer_Bytes ((WS.new (sizeF p.length)).frame p) _ _ (by decide) hfin) rfl rfl ?_; (simp only [go_sem, Nat.reduceAdd, Nat.reduceMul, Int.reduceToNat, Nat.reduceLeDiff, Int.reduceLE, Int.reduceLT, ↓reduceIte, Int.reduceBEq, Int.reduceBNe, Int.reduceAdd, Int.reduceSub, Int.reduceMul]; try refine okTr_and rfl ?_)
  rw [WS.new_is (by omega), hf]
  ((refine FinK.finB r86 [] ?_ ?_); (· first | with_reducible rfl | (simp [WS.bytes]; done) | rfl); (· simp [resAL, resA1, loadA, oneOr, WS.bytes]))
theorem frame_Bytes (p : List Int) (hp : Bys p) (hn : p.length ≤ 2097152) : Ct Tryz.prog 86 [slA .u8 p] [] (fun _ => .tup [slA .u8 (frameB p), iA 0]) [] (fun _ => []) := (frame_Bytes0 p hp hn).toCt cl cl
theorem frame_checked0 (s : RS) (b : List Int) (x a : Int) (hb : Bys b) (hn : b.length ≤ 140737488355328) : Does Tryz.prog 118 [slA .u8 b, uA x, .fn 38 [.ref 0 0] [], iA a] [rdr s] (.tup []) [rdr (if x = crcI b then s else s.fail 6 a)] := by
  have e := sum_u64 hb
  refine Does.runA Tryz.func118 b118 n118 Tryz.ntmps118 ?_; simp only [c118, go_sem, Nat.reduceAdd, Nat.reduceMul, Int.reduceToNat, Nat.reduceLeDiff, Int.reduceLE, Int.reduceLT, ↓reduceIte, Int.reduceBEq, Int.reduceBNe, Int.reduceAdd, Int.reduceSub, Int.reduceMul]; try refine okTr_and rfl ?_
  refine CallK.p (crc_Sum b hb hn) ?_; (simp only [go_sem, Nat.reduceAdd, Nat.reduceMul, Int.reduceToNat, Nat.reduceLeDiff, Int.reduceLE, Int.reduceLT, ↓reduceIte, Int.reduceBEq, Int.reduceBNe, Int.reduceAdd, Int.reduceSub, Int.reduceMul, e]; try refine okTr_and rfl ?_)
  by_cases h : x = crcI b
  · have q : (crcI b != x) = false := by simp [h]
    (simp only [go_sem, Nat.reduceAdd, Nat.reduceMul, Int.reduceToNat, Nat.reduceLeDiff, Int.reduceLE, Int.reduceLT, ↓reduceIte, Int.reduceBEq, Int.reduceBNe, Int.reduceAdd, Int.reduceSub, Int.reduceMul, q]; try refine okTr_and rfl ?_)
    ((refine FinK.finB r118 [0] ?_ ?_); (· first | with_reducible rfl | (simp [h]; done) | rfl); (· simp [resAL, resA1, loadA, oneOr, h]))
  · have q : (crcI b != x) = true := by simp; exact fun h' => h h'.symm
    (simp only [go_sem, Nat.reduceAdd, Nat.reduceMul, Int.reduceToNat, Nat.reduceLeDiff, Int.reduceLE, Int.reduceLT, ↓reduceIte, Int.reduceBEq, Int.reduceBNe, Int.reduceAdd, Int.reduceSub, Int.reduceMul, q]; try refine okTr_and rfl ?_)
    refine CallK.u1 (Reader_Fail s 6 a 0) rfl ?_; (simp only [go_sem, Nat.reduceAdd, Nat.reduceMul, Int.reduceToNat, Nat.reduceLeDiff, Int.reduceLE, Int.reduceLT, ↓reduceIte, Int.reduceBEq, Int.reduceBNe, Int.reduceAdd, Int.reduceSub, Int.reduceMul]; try refine okTr_and rfl ?_)
    ((refine FinK.finB r118 [0] ?_ ?_); (· first | with_reducible rfl | (simp [h]; done) | rfl); (· simp [resAL, resA1, loadA, oneOr, h]))
theorem frame_checked (s : RS) (b : List Int) (x a : Int) (i : Nat) (hb : Bys b) (hn : b.length ≤ 140737488355328) : Ct Tryz.prog 118 [slA .u8 b, uA x, .fn 38 [.ref i 0] [], iA a] [(i, rdr s)] (fun _ => .tup []) [(i, rdr (if x = crcI b then s else s.fail 6 a))] (fun _ => []) :=
  Ct.u1 (frame_checked0 s b x a hb hn) i cl (fun ρ => rdr_ren ρ _) (fun ρ => rdr_ren ρ _) (rdr_dead s) clo
theorem frame_Read0 (s : RS) (m : Int) (hs : ROk s) (m1 : m < 9223372036854775808) : Does Tryz.prog 52 [.ref 0 0, iA m] [rdr s] (slA .u8 (s.frame m).2) [rdr ((s.frame m).1)] := by
  obtain ⟨a1, a2⟩ := RS.ok.blob hs (mfr m)
  have hsh := blob_short hs (mfr m)
  have hlen := hs.len
  refine Does.runA Tryz.func52 b52 n52 Tryz.ntmps52 ?_; simp only [c52, go_sem, Nat.reduceAdd, Nat.reduceMul, Int.reduceToNat, Nat.reduceLeDiff, Int.reduceLE, Int.reduceLT, ↓reduceIte, Int.reduceBEq, Int.reduceBNe, Int.reduceAdd, Int.reduceSub, Int.reduceMul]; try refine okTr_and rfl ?_
  refine CallK.p (frame_bound m) ?_; (simp only [go_sem, Nat.reduceAdd, Nat.reduceMul, Int.reduceToNat, Nat.reduceLeDiff, Int.reduceLE, Int.reduceLT, ↓reduceIte, Int.reduceBEq, Int.reduceBNe, Int.reduceAdd, Int.reduceSub, Int.reduceMul]; try refine okTr_and rfl ?_)
  refine CallK.u1 (blob_Read s (mfr m) _ (by unfold mfr; omega) hs) rfl ?_; (simp only [go_sem, Nat.reduceAdd, Nat.reduceMul, Int.reduceToNat, Nat.reduceLeDiff, Int.reduceLE, Int.reduceLT, ↓reduceIte, Int.reduceBEq, Int.reduceBNe, Int.reduceAdd, Int.reduceSub, Int.reduceMul]; try refine okTr_and rfl ?_)
  generalize hB : s.blob (mfr m) = B at *
  obtain ⟨t, p⟩ := B
  simp only at a1 a2 hsh
  have e : s.frame m = if (t.fixed 4).1.code = 0 then (if (t.fixed 4).2 = crcI p then ((t.fixed 4).1, p) else ((t.fixed 4).1.fail 6 t.at_, [])) else ((t.fixed 4).1, []) := by
    unfold RS.frame; rw [hB]
  refine CallK.r1 (Reader_At t _) rfl ?_; (simp only [go_sem, Nat.reduceAdd, Nat.reduceMul, Int.reduceToNat, Nat.reduceLeDiff, Int.reduceLE, Int.reduceLT, ↓reduceIte, Int.reduceBEq, Int.reduceBNe, Int.reduceAdd, Int.reduceSub, Int.reduceMul]; try refine okTr_and rfl ?_)
  refine CallK.u1 (blob_ReadFixed t 4 _ a1) rfl ?_; (simp only [go_sem, Nat.reduceAdd, Nat.reduceMul, Int.reduceToNat, Nat.reduceLeDiff, Int.reduceLE, Int.reduceLT, ↓reduceIte, Int.reduceBEq, Int.reduceBNe, Int.reduceAdd, Int.reduceSub, Int.reduceMul]; try refine okTr_and rfl ?_)
  refine CallK.u1 (frame_checked (t.fixed 4).1 p (t.fixed 4).2 t.at_ _ hsh.2 (by omega)) rfl ?_; (simp only [go_sem, Nat.reduceAdd, Nat.reduceMul, Int.reduceToNat, Nat.reduceLeDiff, Int.reduceLE, Int.reduceLT, ↓reduceIte, Int.reduceBEq, Int.reduceBNe, Int.reduceAdd, Int.reduceSub, Int.reduceMul]; try refine okTr_and rfl ?_)
  by_cases hc : (t.fixed 4).1.code = 0
  · rw [if_pos hc] at e
    by_cases hx : (t.fixed 4).2 = crcI p
    · rw [if_pos hx] at e
      rw [if_pos hx]
      refine CallK.r1 (Reader_Good (t.fixed 4).1 _) rfl ?_; (simp only [go_sem, Nat.reduceAdd, Nat.reduceMul, Int.reduceToNat, Nat.reduceLeDiff, Int.reduceLE, Int.reduceLT, ↓reduceIte, Int.reduceBEq, Int.reduceBNe, Int.reduceAdd, Int.reduceSub, Int.reduceMul, good_true hc]; try refine okTr_and rfl ?_)
      ((refine FinK.finB r52 [0] ?_ ?_); (· first | with_reducible rfl | (simp [e]; done) | rfl); (· simp [resAL, resA1, loadA, oneOr, e]))
    · rw [if_neg hx] at e
      rw [if_neg hx]
      have hb : ¬ ((t.fixed 4).1.fail 6 t.at_).code = 0 := fail_not0 _ _ hc (by decide)
      refine CallK.r1 (Reader_Good ((t.fixed 4).1.fail 6 t.at_) _) rfl ?_; (simp only [go_sem, Nat.reduceAdd, Nat.reduceMul, Int.reduceToNat, Nat.reduceLeDiff, Int.reduceLE, Int.reduceLT, ↓reduceIte, Int.reduceBEq, Int.reduceBNe, Int.reduceAdd, Int.reduceSub, Int.reduceMul, good_false hb]; try refine okTr_and rfl ?_)
      (refine FinK.untag 4 rfl ?_; simp only [untag1_sl, List.set_cons_zero, List.set_cons_succ])
      ((refine FinK.finB r52 [0] ?_ ?_); (· first | with_reducible rfl | (simp [e]; done) | rfl); (· simp [resAL, resA1, loadA, oneOr, e]))
  · rw [if_neg hc] at e
    have hk : ((if (t.fixed 4).2 = crcI p then (t.fixed 4).1 else (t.fixed 4).1.fail 6 t.at_)) = (t.fixed 4).1 := by
      split
      · rfl
      · unfold RS.fail; rw [if_neg hc]
    rw [hk]
    refine CallK.r1 (Reader_Good (t.fixed 4).1 _) rfl ?_; (simp only [go_sem, Nat.reduceAdd, Nat.reduceMul, Int.reduceToNat, Nat.reduceLeDiff, Int.reduceLE, Int.reduceLT, ↓reduceIte, Int.reduceBEq, Int.reduceBNe, Int.reduceAdd, Int.reduceSub, Int.reduceMul, good_false hc]; try refine okTr_and rfl ?_)
    (refine FinK.untag 4 rfl ?_; simp only [untag1_sl, List.set_cons_zero, List.set_cons_succ])
    ((refine FinK.finB r52 [0] ?_ ?_); (· first | with_reducible rfl | (simp [e]; done) | rfl); (· simp [resAL, resA1, loadA, oneOr, e]))
theorem frame_Read (s : RS) (m : Int) (i : Nat) (hs : ROk s) (m1 : m < 9223372036854775808) : Ct Tryz.prog 52 [.ref i 0, iA m] [(i, rdr s)] (fun _ => slA .u8 (s.frame m).2) [(i, rdr ((s.frame m).1))] (fun _ => []) := Ct.u1 (frame_Read0 s m hs m1) i cl (fun ρ => rdr_ren ρ _) (fun ρ => rdr_ren ρ _) (rdr_dead _) cl
end Go.Proofs.YtnfagphepkeedaaGreat
end
section
namespace Go.Proofs.YtnfagphepkeedaaGreat
open Go.RowKit

abbrev hdA (h : Hd) : AV := .agg [iA h.ver, uA h.ep, uA h.base]
abbrev tholS : ByteArray := ⟨#[84, 72, 79, 76]⟩
theorem thol_bys : Bys thol := by unfold Bys thol; decide
theorem text_is {l : List Int} (hl : Bys l) : ((bytesOf (ints .u8 l)).toList == tholS.toList) = sameB l thol := bytes_same hl thol_bys
theorem thol_text : (tholS.data.toList.map fun b => AV.lit (.int .u8 b.toNat)) = ints .u8 thol := rfl
theorem vb9 {x : Int} (h : x < 4611686018427387904) : (vb x).length ≤ 9 := by
  have h1 := vb_mono (x := x) (y := 4611686018427387903) (by omega)
  have h2 : (vb 4611686018427387903).length = 9 := by kernel_rfl
  omega
theorem hMost0 : Does Tryz.prog 101 [] [] (iA 27) [] := by
  have h2 : ((vb 4611686018427387903).length : Int) = 9 := by have : (vb 4611686018427387903).length = 9 := by kernel_rfl
                                                              omega
  have e1 : IntKind.i64.wrap 18 = 18 := by decide
  have e2 : IntKind.i64.wrap 23 = 23 := by decide
  have e3 : IntKind.i64.wrap 27 = 27 := by decide
  refine Does.runA Tryz.func101 b101 n101 Tryz.ntmps101 ?_; simp only [c101, go_sem, Nat.reduceAdd, Nat.reduceMul, Int.reduceToNat, Nat.reduceLeDiff, Int.reduceLE, Int.reduceLT, ↓reduceIte, Int.reduceBEq, Int.reduceBNe, Int.reduceAdd, Int.reduceSub, Int.reduceMul]; try refine okTr_and rfl ?_
  refine CallK.p (varint_Size 4611686018427387903 (by omega) (by omega)) ?_; (simp only [go_sem, Nat.reduceAdd, Nat.reduceMul, Int.reduceToNat, Nat.reduceLeDiff, Int.reduceLE, Int.reduceLT, ↓reduceIte, Int.reduceBEq, Int.reduceBNe, Int.reduceAdd, Int.reduceSub, Int.reduceMul, h2, e1, e2, e3]; try refine okTr_and rfl ?_)
  (repeat ((with_reducible refine And.intro ?_ ?_); (· exact sd)))
  exact FinK.finA r101 []
theorem hMost : Ct Tryz.prog 101 [] [] (fun _ => iA 27) [] (fun _ => []) := (hMost0).toCt cl cl
theorem header_based0 (v : Int) : Does Tryz.prog 156 [iA v] [] (bA (v == 1)) [] := by
  refine Does.runA Tryz.func156 b156 n156 Tryz.ntmps156 ?_; simp only [c156, go_sem, Nat.reduceAdd, Nat.reduceMul, Int.reduceToNat, Nat.reduceLeDiff, Int.reduceLE, Int.reduceLT, ↓reduceIte, Int.reduceBEq, Int.reduceBNe, Int.reduceAdd, Int.reduceSub, Int.reduceMul]; try refine okTr_and rfl ?_
  exact FinK.finA r156 []
theorem header_based (v : Int) : Ct Tryz.prog 156 [iA v] [] (fun _ => bA (v == 1)) [] (fun _ => []) := (header_based0 v).toCt cl cl
theorem header_Right0 (h : Hd) : Does Tryz.prog 151 [hdA h] [] (bA (rightH h)) [] := by
  refine Does.runA Tryz.func151 b151 n151 Tryz.ntmps151 ?_; simp only [c151, go_sem, Nat.reduceAdd, Nat.reduceMul, Int.reduceToNat, Nat.reduceLeDiff, Int.reduceLE, Int.reduceLT, ↓reduceIte, Int.reduceBEq, Int.reduceBNe, Int.reduceAdd, Int.reduceSub, Int.reduceMul]; try refine okTr_and rfl ?_
  by_cases h1 : 1 ≤ h.ver
  · have q1 : decide (1 ≤ h.ver) = true := decide_eq_true h1
    by_cases h2 : h.ver ≤ 3
    · have q2 : decide (h.ver ≤ 3) = true := decide_eq_true h2
      have q12 : decide (1 ≤ h.ver ∧ h.ver ≤ 3) = true := decide_eq_true ⟨h1, h2⟩
      (simp only [go_sem, Nat.reduceAdd, Nat.reduceMul, Int.reduceToNat, Nat.reduceLeDiff, Int.reduceLE, Int.reduceLT, ↓reduceIte, Int.reduceBEq, Int.reduceBNe, Int.reduceAdd, Int.reduceSub, Int.reduceMul, q1, q2]; try refine okTr_and rfl ?_)
      refine CallK.p (epoch_Right h.ep) ?_
      cases q3 : epRight h.ep
      · have e : rightH h = false := by unfold rightH; rw [q12, q3]; rfl
        (simp only [go_sem, Nat.reduceAdd, Nat.reduceMul, Int.reduceToNat, Nat.reduceLeDiff, Int.reduceLE, Int.reduceLT, ↓reduceIte, Int.reduceBEq, Int.reduceBNe, Int.reduceAdd, Int.reduceSub, Int.reduceMul, q3]; try refine okTr_and rfl ?_)
        ((refine FinK.finB r151 [] ?_ ?_); (· first | with_reducible rfl | (simp [e]; done) | rfl); (· simp [resAL, resA1, loadA, oneOr, e]))
      · (simp only [go_sem, Nat.reduceAdd, Nat.reduceMul, Int.reduceToNat, Nat.reduceLeDiff, Int.reduceLE, Int.reduceLT, ↓reduceIte, Int.reduceBEq, Int.reduceBNe, Int.reduceAdd, Int.reduceSub, Int.reduceMul, q3]; try refine okTr_and rfl ?_)
        refine CallK.p (epoch_Pos h.base) ?_
        cases q4 : epPos h.base
        · have e : rightH h = false := by unfold rightH; rw [q12, q3, q4]; rfl
          (simp only [go_sem, Nat.reduceAdd, Nat.reduceMul, Int.reduceToNat, Nat.reduceLeDiff, Int.reduceLE, Int.reduceLT, ↓reduceIte, Int.reduceBEq, Int.reduceBNe, Int.reduceAdd, Int.reduceSub, Int.reduceMul, q4]; try refine okTr_and rfl ?_)
          ((refine FinK.finB r151 [] ?_ ?_); (· first | with_reducible rfl | (simp [e]; done) | rfl); (· simp [resAL, resA1, loadA, oneOr, e]))
        · (simp only [go_sem, Nat.reduceAdd, Nat.reduceMul, Int.reduceToNat, Nat.reduceLeDiff, Int.reduceLE, Int.reduceLT, ↓reduceIte, Int.reduceBEq, Int.reduceBNe, Int.reduceAdd, Int.reduceSub, Int.reduceMul, q4]; try refine okTr_and rfl ?_)
          refine CallK.p (header_based h.ver) ?_
          by_cases h5 : h.ver = 1
          · have q5 : (h.ver == 1) = true := by simpa using h5
            have e : rightH h = true := by unfold rightH; rw [q12, q3, q4, decide_eq_true h5]; rfl
            (simp only [go_sem, Nat.reduceAdd, Nat.reduceMul, Int.reduceToNat, Nat.reduceLeDiff, Int.reduceLE, Int.reduceLT, ↓reduceIte, Int.reduceBEq, Int.reduceBNe, Int.reduceAdd, Int.reduceSub, Int.reduceMul, q5]; try refine okTr_and rfl ?_)
            ((refine FinK.finB r151 [] ?_ ?_); (· first | with_reducible rfl | (simp [e]; done) | rfl); (· simp [resAL, resA1, loadA, oneOr, e]))
          · have q5 : (h.ver == 1) = false := by simpa using h5
            have e : (h.base == 0) = rightH h := by
              unfold rightH; rw [q12, q3, q4, decide_eq_false h5, Bool.eq_iff_iff]; simp
            (simp only [go_sem, Nat.reduceAdd, Nat.reduceMul, Int.reduceToNat, Nat.reduceLeDiff, Int.reduceLE, Int.reduceLT, ↓reduceIte, Int.reduceBEq, Int.reduceBNe, Int.reduceAdd, Int.reduceSub, Int.reduceMul, q5, e]; try refine okTr_and rfl ?_)
            exact FinK.finA r151 []
    · have q2 : decide (h.ver ≤ 3) = false := decide_eq_false h2
      have e : rightH h = false := by unfold rightH; rw [decide_eq_false (by omega)]; rfl
      (simp only [go_sem, Nat.reduceAdd, Nat.reduceMul, Int.reduceToNat, Nat.reduceLeDiff, Int.reduceLE, Int.reduceLT, ↓reduceIte, Int.reduceBEq, Int.reduceBNe, Int.reduceAdd, Int.reduceSub, Int.reduceMul, q1, q2]; try refine okTr_and rfl ?_)
      ((refine FinK.finB r151 [] ?_ ?_); (· first | with_reducible rfl | (simp [e]; done) | rfl); (· simp [resAL, resA1, loadA, oneOr, e]))
  · have q1 : decide (1 ≤ h.ver) = false := decide_eq_false h1
    have e : rightH h = false := by unfold rightH; rw [decide_eq_false (by omega)]; rfl
    (simp only [go_sem, Nat.reduceAdd, Nat.reduceMul, Int.reduceToNat, Nat.reduceLeDiff, Int.reduceLE, Int.reduceLT, ↓reduceIte, Int.reduceBEq, Int.reduceBNe, Int.reduceAdd, Int.reduceSub, Int.reduceMul, q1]; try refine okTr_and rfl ?_)
    ((refine FinK.finB r151 [] ?_ ?_); (· first | with_reducible rfl | (simp [e]; done) | rfl); (· simp [resAL, resA1, loadA, oneOr, e]))
theorem header_Right (h : Hd) : Ct Tryz.prog 151 [hdA h] [] (fun _ => bA (rightH h)) [] (fun _ => []) := (header_Right0 h).toCt cl cl
theorem Writer_Thol0 (s : WS) (hs : s.fine) : Does Tryz.prog 178 [.ref 0 0, .lit (.string tholS)] [wob 1 s, wrow s] (.tup []) [wob 1 (s.put thol), wrow (s.put thol)] := by
  refine Does.runA Tryz.func178 b178 n178 Tryz.ntmps178 ?_; simp only [c178, go_sem, Nat.reduceAdd, Nat.reduceMul, Int.reduceToNat, Nat.reduceLeDiff, Int.reduceLE, Int.reduceLT, ↓reduceIte, Int.reduceBEq, Int.reduceBNe, Int.reduceAdd, Int.reduceSub, Int.reduceMul, thol_text]; try refine okTr_and rfl ?_
  (repeat ((with_reducible refine And.intro ?_ ?_); (· exact sd)))
  refine CallK.u2 (Writer_Put s thol 0 1 (by decide) hs.ok (hs.room _)) rfl rfl ?_; (simp only [go_sem, Nat.reduceAdd, Nat.reduceMul, Int.reduceToNat, Nat.reduceLeDiff, Int.reduceLE, Int.reduceLT, ↓reduceIte, Int.reduceBEq, Int.reduceBNe, Int.reduceAdd, Int.reduceSub, Int.reduceMul]; try refine okTr_and rfl ?_)
  exact FinK.finA r178 [0, 1]
theorem Writer_Thol (s : WS) (i j : Nat) (h : i ≠ j) (hs : s.fine) : Ct Tryz.prog 178 [.ref i 0, .lit (.string tholS)] [(i, wob j s), (j, wrow s)] (fun _ => .tup []) [(i, wob j (s.put thol)), (j, wrow (s.put thol))] (fun _ => []) := Ct.u2 (Writer_Thol0 s hs) i j h cl cl cl cl cl (wob_dead _ _) (wrow_dead _) clo
def WS.epput (s : WS) (x : Int) (b : Bool) : WS := if b = true then s.put (vb x) else s.fail 3
theorem epoch_put0 (s : WS) (x : Int) (b : Bool) (h0 : 0 ≤ x) (h1 : x < 18446744073709551616) (hs : s.fine) : Does Tryz.prog 169 [.ref 0 0, uA x, bA b] [wob 1 s, wrow s] (.tup []) [wob 1 (s.epput x b), wrow (s.epput x b)] := by
  refine Does.runA Tryz.func169 b169 n169 Tryz.ntmps169 ?_; simp only [c169, go_sem, Nat.reduceAdd, Nat.reduceMul, Int.reduceToNat, Nat.reduceLeDiff, Int.reduceLE, Int.reduceLT, ↓reduceIte, Int.reduceBEq, Int.reduceBNe, Int.reduceAdd, Int.reduceSub, Int.reduceMul]; try refine okTr_and rfl ?_
  cases b
  · (simp only [go_sem, Nat.reduceAdd, Nat.reduceMul, Int.reduceToNat, Nat.reduceLeDiff, Int.reduceLE, Int.reduceLT, ↓reduceIte, Int.reduceBEq, Int.reduceBNe, Int.reduceAdd, Int.reduceSub, Int.reduceMul]; try refine okTr_and rfl ?_)
    refine CallK.u2 (Writer_Fail s 3 0 1 (by decide)) rfl rfl ?_; (simp only [go_sem, Nat.reduceAdd, Nat.reduceMul, Int.reduceToNat, Nat.reduceLeDiff, Int.reduceLE, Int.reduceLT, ↓reduceIte, Int.reduceBEq, Int.reduceBNe, Int.reduceAdd, Int.reduceSub, Int.reduceMul]; try refine okTr_and rfl ?_)
    ((refine FinK.finB r169 [0, 1] ?_ ?_); (· first | with_reducible rfl | (simp [WS.epput]; done) | rfl); (· simp [resAL, resA1, loadA, oneOr, WS.epput]))
  · (simp only [go_sem, Nat.reduceAdd, Nat.reduceMul, Int.reduceToNat, Nat.reduceLeDiff, Int.reduceLE, Int.reduceLT, ↓reduceIte, Int.reduceBEq, Int.reduceBNe, Int.reduceAdd, Int.reduceSub, Int.reduceMul]; try refine okTr_and rfl ?_)
    refine CallK.u2 (varint_Put s x 0 1 (by decide) h0 h1 hs.ok (hs.room _)) rfl rfl ?_; (simp only [go_sem, Nat.reduceAdd, Nat.reduceMul, Int.reduceToNat, Nat.reduceLeDiff, Int.reduceLE, Int.reduceLT, ↓reduceIte, Int.reduceBEq, Int.reduceBNe, Int.reduceAdd, Int.reduceSub, Int.reduceMul]; try refine okTr_and rfl ?_)
    ((refine FinK.finB r169 [0, 1] ?_ ?_); (· first | with_reducible rfl | (simp [WS.epput]; done) | rfl); (· simp [resAL, resA1, loadA, oneOr, WS.epput]))
theorem epoch_put (s : WS) (x : Int) (b : Bool) (i j : Nat) (h : i ≠ j) (h0 : 0 ≤ x) (h1 : x < 18446744073709551616) (hs : s.fine) : Ct Tryz.prog 169 [.ref i 0, uA x, bA b] [(i, wob j s), (j, wrow s)] (fun _ => .tup []) [(i, wob j (s.epput x b)), (j, wrow (s.epput x b))] (fun _ => []) := Ct.u2 (epoch_put0 s x b h0 h1 hs) i j h cl cl cl cl cl (wob_dead _ _) (wrow_dead _) clo
theorem epoch_Put0 (s : WS) (x : Int) (h0 : 0 ≤ x) (h1 : x < 18446744073709551616) (hs : s.fine) : Does Tryz.prog 136 [.ref 0 0, uA x] [wob 1 s, wrow s] (.tup []) [wob 1 (s.epput x (epRight x)), wrow (s.epput x (epRight x))] := by
  refine Does.runA Tryz.func136 b136 n136 Tryz.ntmps136 ?_; simp only [c136, go_sem, Nat.reduceAdd, Nat.reduceMul, Int.reduceToNat, Nat.reduceLeDiff, Int.reduceLE, Int.reduceLT, ↓reduceIte, Int.reduceBEq, Int.reduceBNe, Int.reduceAdd, Int.reduceSub, Int.reduceMul]; try refine okTr_and rfl ?_
  refine CallK.p (epoch_Right x) ?_; (simp only [go_sem, Nat.reduceAdd, Nat.reduceMul, Int.reduceToNat, Nat.reduceLeDiff, Int.reduceLE, Int.reduceLT, ↓reduceIte, Int.reduceBEq, Int.reduceBNe, Int.reduceAdd, Int.reduceSub, Int.reduceMul]; try refine okTr_and rfl ?_)
  refine CallK.u2 (epoch_put s x (epRight x) 0 1 (by decide) h0 h1 hs) rfl rfl ?_; (simp only [go_sem, Nat.reduceAdd, Nat.reduceMul, Int.reduceToNat, Nat.reduceLeDiff, Int.reduceLE, Int.reduceLT, ↓reduceIte, Int.reduceBEq, Int.reduceBNe, Int.reduceAdd, Int.reduceSub, Int.reduceMul]; try refine okTr_and rfl ?_)
  exact FinK.finA r136 [0, 1]
theorem epoch_Put (s : WS) (x : Int) (i j : Nat) (h : i ≠ j) (h0 : 0 ≤ x) (h1 : x < 18446744073709551616) (hs : s.fine) : Ct Tryz.prog 136 [.ref i 0, uA x] [(i, wob j s), (j, wrow s)] (fun _ => .tup []) [(i, wob j (s.epput x (epRight x))), (j, wrow (s.epput x (epRight x)))] (fun _ => []) := Ct.u2 (epoch_Put0 s x h0 h1 hs) i j h cl cl cl cl cl (wob_dead _ _) (wrow_dead _) clo
theorem epoch_PutPos0 (s : WS) (x : Int) (h0 : 0 ≤ x) (h1 : x < 18446744073709551616) (hs : s.fine) : Does Tryz.prog 137 [.ref 0 0, uA x] [wob 1 s, wrow s] (.tup []) [wob 1 (s.epput x (epPos x)), wrow (s.epput x (epPos x))] := by
  refine Does.runA Tryz.func137 b137 n137 Tryz.ntmps137 ?_; simp only [c137, go_sem, Nat.reduceAdd, Nat.reduceMul, Int.reduceToNat, Nat.reduceLeDiff, Int.reduceLE, Int.reduceLT, ↓reduceIte, Int.reduceBEq, Int.reduceBNe, Int.reduceAdd, Int.reduceSub, Int.reduceMul]; try refine okTr_and rfl ?_
  refine CallK.p (epoch_Pos x) ?_; (simp only [go_sem, Nat.reduceAdd, Nat.reduceMul, Int.reduceToNat, Nat.reduceLeDiff, Int.reduceLE, Int.reduceLT, ↓reduceIte, Int.reduceBEq, Int.reduceBNe, Int.reduceAdd, Int.reduceSub, Int.reduceMul]; try refine okTr_and rfl ?_)
  refine CallK.u2 (epoch_put s x (epPos x) 0 1 (by decide) h0 h1 hs) rfl rfl ?_; (simp only [go_sem, Nat.reduceAdd, Nat.reduceMul, Int.reduceToNat, Nat.reduceLeDiff, Int.reduceLE, Int.reduceLT, ↓reduceIte, Int.reduceBEq, Int.reduceBNe, Int.reduceAdd, Int.reduceSub, Int.reduceMul]; try refine okTr_and rfl ?_)
  exact FinK.finA r137 [0, 1]
theorem epoch_PutPos (s : WS) (x : Int) (i j : Nat) (h : i ≠ j) (h0 : 0 ≤ x) (h1 : x < 18446744073709551616) (hs : s.fine) : Ct Tryz.prog 137 [.ref i 0, uA x] [(i, wob j s), (j, wrow s)] (fun _ => .tup []) [(i, wob j (s.epput x (epPos x))), (j, wrow (s.epput x (epPos x)))] (fun _ => []) := Ct.u2 (epoch_PutPos0 s x h0 h1 hs) i j h cl cl cl cl cl (wob_dead _ _) (wrow_dead _) clo
theorem headerB_27 {h : Hd} (hr : rightH h = true) : (plainB h).length ≤ 23 ∧ (headerB h).length ≤ 27 := by
  obtain ⟨h1, h2, h3, h4⟩ := rightH_iff.1 hr
  have a := vb9 h2.2
  have b := vb9 h3
  have c := headerB_len h
  have d : (plainB h).length ≤ 23 := by
    unfold plainB
    simp only [List.length_append, thol, List.length_cons, List.length_nil]
    split
    · omega
    · simp only [List.length_nil]; omega
  exact ⟨d, by omega⟩
theorem header_plain0 (h : Hd) (hr : rightH h = true) (hb : 0 ≤ h.base) : Does Tryz.prog 153 [hdA h] [] (slA .u8 (plainB h)) [] := by
  obtain ⟨h1, h2, h3, h4⟩ := rightH_iff.1 hr
  have a := vb9 h2.2
  have b := vb9 h3
  have ew : IntKind.u8.wrap h.ver = h.ver := IntWalk.u8_in _ (by omega)
  have f0 : (WS.new 27).fine := WS.fine.new (by omega)
  have f1 := f0.put thol
  have w1 : (WS.new 27).put thol = ⟨27, thol, 0⟩ := by kernel_rfl
  rw [w1] at f1
  have f2 := f1.put [h.ver]
  have w2 : (WS.mk 27 thol 0).put [h.ver] = ⟨27, thol ++ [h.ver], 0⟩ := put_fit rfl (by simp [thol])
  rw [w2] at f2
  have f3 := f2.put (vb h.ep)
  have w3 : (WS.mk 27 (thol ++ [h.ver]) 0).put (vb h.ep) = ⟨27, thol ++ [h.ver] ++ vb h.ep, 0⟩ := put_fit rfl (by simp [thol]; omega)
  rw [w3] at f3
  have w3' : (WS.mk 27 (thol ++ [h.ver]) 0).epput h.ep (epRight h.ep) = ⟨27, thol ++ [h.ver] ++ vb h.ep, 0⟩ := by unfold WS.epput; rw [if_pos (epRight_iff.2 h2), w3]
  have w4 : (WS.mk 27 (thol ++ [h.ver] ++ vb h.ep) 0).put (vb h.base) = ⟨27, thol ++ [h.ver] ++ vb h.ep ++ vb h.base, 0⟩ := put_fit rfl (by simp [thol]; omega)
  have w4' : (WS.mk 27 (thol ++ [h.ver] ++ vb h.ep) 0).epput h.base (epPos h.base) = ⟨27, thol ++ [h.ver] ++ vb h.ep ++ vb h.base, 0⟩ := by unfold WS.epput; rw [if_pos (epPos_iff.2 h3), w4]
  have e1 : ints .u8 [h.ver] = [u8A h.ver] := rfl
  have hl := (headerB_27 hr).1
  refine Does.runA Tryz.func153 b153 n153 Tryz.ntmps153 ?_; simp only [c153, go_sem, Nat.reduceAdd, Nat.reduceMul, Int.reduceToNat, Nat.reduceLeDiff, Int.reduceLE, Int.reduceLT, ↓reduceIte, Int.reduceBEq, Int.reduceBNe, Int.reduceAdd, Int.reduceSub, Int.reduceMul]; try refine okTr_and rfl ?_
  refine CallK.p (hMost) ?_; (simp only [go_sem, Nat.reduceAdd, Nat.reduceMul, Int.reduceToNat, Nat.reduceLeDiff, Int.reduceLE, Int.reduceLT, ↓reduceIte, Int.reduceBEq, Int.reduceBNe, Int.reduceAdd, Int.reduceSub, Int.reduceMul]; try refine okTr_and rfl ?_)
  refine CallK.n (pen_New 27) ?_; (simp only [go_sem, Nat.reduceAdd, Nat.reduceMul, Int.reduceToNat, Nat.reduceLeDiff, Int.reduceLE, Int.reduceLT, ↓reduceIte, Int.reduceBEq, Int.reduceBNe, Int.reduceAdd, Int.reduceSub, Int.reduceMul]; try refine okTr_and rfl ?_)
  refine CallK.u2 (Writer_Thol (WS.new 27) _ _ (by decide) f0) rfl rfl ?_; (simp only [go_sem, Nat.reduceAdd, Nat.reduceMul, Int.reduceToNat, Nat.reduceLeDiff, Int.reduceLE, Int.reduceLT, ↓reduceIte, Int.reduceBEq, Int.reduceBNe, Int.reduceAdd, Int.reduceSub, Int.reduceMul, w1, ew]; try refine okTr_and rfl ?_)
  (repeat ((with_reducible refine And.intro ?_ ?_); (· exact sd)))
  refine CallK.u2 (Writer_Put (WS.mk 27 thol 0) [h.ver] _ _ (by decide) f1.ok (f1.room _)) rfl rfl ?_; (simp only [go_sem, Nat.reduceAdd, Nat.reduceMul, Int.reduceToNat, Nat.reduceLeDiff, Int.reduceLE, Int.reduceLT, ↓reduceIte, Int.reduceBEq, Int.reduceBNe, Int.reduceAdd, Int.reduceSub, Int.reduceMul, w2]; try refine okTr_and rfl ?_)
  refine CallK.u2 (epoch_Put (WS.mk 27 (thol ++ [h.ver]) 0) h.ep _ _ (by decide) (by omega) (by omega) f2) rfl rfl ?_; (simp only [go_sem, Nat.reduceAdd, Nat.reduceMul, Int.reduceToNat, Nat.reduceLeDiff, Int.reduceLE, Int.reduceLT, ↓reduceIte, Int.reduceBEq, Int.reduceBNe, Int.reduceAdd, Int.reduceSub, Int.reduceMul, w3']; try refine okTr_and rfl ?_)
  refine CallK.p (header_based h.ver) ?_
  by_cases hv : h.ver = 1
  · have q5 : (h.ver == 1) = true := by simpa using hv
    have e : plainB h = thol ++ [h.ver] ++ vb h.ep ++ vb h.base := by unfold plainB; rw [if_pos hv]
    have hbs : (WS.mk 27 (plainB h) 0).bytes = plainB h := rfl
    rw [← e] at w4'
    (simp only [go_sem, Nat.reduceAdd, Nat.reduceMul, Int.reduceToNat, Nat.reduceLeDiff, Int.reduceLE, Int.reduceLT, ↓reduceIte, Int.reduceBEq, Int.reduceBNe, Int.reduceAdd, Int.reduceSub, Int.reduceMul, q5]; try refine okTr_and rfl ?_)
    refine CallK.u2 (epoch_PutPos (WS.mk 27 (thol ++ [h.ver] ++ vb h.ep) 0) h.base _ _ (by decide) hb (by omega) f3) rfl rfl ?_; (simp only [go_sem, Nat.reduceAdd, Nat.reduceMul, Int.reduceToNat, Nat.reduceLeDiff, Int.reduceLE, Int.reduceLT, ↓reduceIte, Int.reduceBEq, Int.reduceBNe, Int.reduceAdd, Int.reduceSub, Int.reduceMul, w4']; try refine okTr_and rfl ?_)
    refine CallK.r2 (Writer_Bytes (WS.mk 27 (plainB h) 0) _ _ (by decide) (by show (plainB h).length ≤ _; omega)) rfl rfl ?_; (simp only [go_sem, Nat.reduceAdd, Nat.reduceMul, Int.reduceToNat, Nat.reduceLeDiff, Int.reduceLE, Int.reduceLT, ↓reduceIte, Int.reduceBEq, Int.reduceBNe, Int.reduceAdd, Int.reduceSub, Int.reduceMul, hbs]; try refine okTr_and rfl ?_)
    exact FinK.finA r153 []
  · have q5 : (h.ver == 1) = false := by simpa using hv
    have e : plainB h = thol ++ [h.ver] ++ vb h.ep := by unfold plainB; rw [if_neg hv, List.append_nil]
    have hbs : (WS.mk 27 (plainB h) 0).bytes = plainB h := rfl
    rw [← e]
    (simp only [go_sem, Nat.reduceAdd, Nat.reduceMul, Int.reduceToNat, Nat.reduceLeDiff, Int.reduceLE, Int.reduceLT, ↓reduceIte, Int.reduceBEq, Int.reduceBNe, Int.reduceAdd, Int.reduceSub, Int.reduceMul, q5]; try refine okTr_and rfl ?_)
    refine CallK.r2 (Writer_Bytes (WS.mk 27 (plainB h) 0) _ _ (by decide) (by show (plainB h).length ≤ _; omega)) rfl rfl ?_; (simp only [go_sem, Nat.reduceAdd, Nat.reduceMul, Int.reduceToNat, Nat.reduceLeDiff, Int.reduceLE, Int.reduceLT, ↓reduceIte, Int.reduceBEq, Int.reduceBNe, Int.reduceAdd, Int.reduceSub, Int.reduceMul, hbs]; try refine okTr_and rfl ?_)
    exact FinK.finA r153 []
theorem header_plain (h : Hd) (hr : rightH h = true) (hb : 0 ≤ h.base) : Ct Tryz.prog 153 [hdA h] [] (fun _ => slA .u8 (plainB h)) [] (fun _ => []) := (header_plain0 h hr hb).toCt cl cl
def WS.header (s : WS) (h : Hd) : WS := if rightH h = true then (s.put (plainB h)).put (lowBytes 4 (crcI (plainB h))) else s.fail 3
theorem WS.fine.header {s : WS} (hs : s.fine) (h : Hd) : (s.header h).fine := by
  unfold WS.header; split
  · exact (hs.put _).put _
  · exact hs.fail 3
theorem header_fit {s : WS} {h : Hd} (hr : rightH h = true) (hc : s.code = 0) (hm : (s.l.length : Int) + (headerB h).length ≤ s.most) : s.header h = ⟨s.most, s.l ++ headerB h, 0⟩ := by
  rw [headerB_len] at hm
  have h4 := lowBytes_len 4 (crcI (plainB h))
  unfold WS.header
  rw [if_pos hr, put_fit hc (by omega), put_fit rfl (by simp only [List.length_append]; omega)]
  simp [headerB]
theorem header_Put0 (s : WS) (h : Hd) (hs : s.fine) (hb : 0 ≤ h.base) : Does Tryz.prog 102 [.ref 0 0, hdA h] [wob 1 s, wrow s] (.tup []) [wob 1 (s.header h), wrow (s.header h)] := by
  refine Does.runA Tryz.func102 b102 n102 Tryz.ntmps102 ?_; simp only [c102, go_sem, Nat.reduceAdd, Nat.reduceMul, Int.reduceToNat, Nat.reduceLeDiff, Int.reduceLE, Int.reduceLT, ↓reduceIte, Int.reduceBEq, Int.reduceBNe, Int.reduceAdd, Int.reduceSub, Int.reduceMul]; try refine okTr_and rfl ?_
  refine CallK.p (header_Right h) ?_
  by_cases hr : rightH h = true
  · have hp := plainB_bys hr hb
    have hl := (headerB_27 hr).1
    have hcr := crcI_range hp
    have e := sum_u64 hp
    (simp only [go_sem, Nat.reduceAdd, Nat.reduceMul, Int.reduceToNat, Nat.reduceLeDiff, Int.reduceLE, Int.reduceLT, ↓reduceIte, Int.reduceBEq, Int.reduceBNe, Int.reduceAdd, Int.reduceSub, Int.reduceMul, hr]; try refine okTr_and rfl ?_)
    refine CallK.p (header_plain h hr hb) ?_; (simp only [go_sem, Nat.reduceAdd, Nat.reduceMul, Int.reduceToNat, Nat.reduceLeDiff, Int.reduceLE, Int.reduceLT, ↓reduceIte, Int.reduceBEq, Int.reduceBNe, Int.reduceAdd, Int.reduceSub, Int.reduceMul]; try refine okTr_and rfl ?_)
    refine CallK.u2 (Writer_Put s (plainB h) 0 1 (by decide) hs.ok (hs.room _)) rfl rfl ?_; (simp only [go_sem, Nat.reduceAdd, Nat.reduceMul, Int.reduceToNat, Nat.reduceLeDiff, Int.reduceLE, Int.reduceLT, ↓reduceIte, Int.reduceBEq, Int.reduceBNe, Int.reduceAdd, Int.reduceSub, Int.reduceMul]; try refine okTr_and rfl ?_)
    refine CallK.p (crc_Sum (plainB h) hp (by omega)) ?_; (simp only [go_sem, Nat.reduceAdd, Nat.reduceMul, Int.reduceToNat, Nat.reduceLeDiff, Int.reduceLE, Int.reduceLT, ↓reduceIte, Int.reduceBEq, Int.reduceBNe, Int.reduceAdd, Int.reduceSub, Int.reduceMul, e]; try refine okTr_and rfl ?_)
    refine CallK.u2 (Writer_Fixed (s.put (plainB h)) (crcI (plainB h)) 4 0 1 (by decide) hcr.1 (by omega) (hs.put _)) rfl rfl ?_; (simp only [go_sem, Nat.reduceAdd, Nat.reduceMul, Int.reduceToNat, Nat.reduceLeDiff, Int.reduceLE, Int.reduceLT, ↓reduceIte, Int.reduceBEq, Int.reduceBNe, Int.reduceAdd, Int.reduceSub, Int.reduceMul]; try refine okTr_and rfl ?_)
    ((refine FinK.finB r102 [0, 1] ?_ ?_); (· first | with_reducible rfl | (simp [WS.header, hr, show (min (max (4 : Int) 0) 8).toNat = 4 from rfl]; done) | rfl); (· simp [resAL, resA1, loadA, oneOr, WS.header, hr, show (min (max (4 : Int) 0) 8).toNat = 4 from rfl]))
  · have hr' : rightH h = false := by simpa using hr
    (simp only [go_sem, Nat.reduceAdd, Nat.reduceMul, Int.reduceToNat, Nat.reduceLeDiff, Int.reduceLE, Int.reduceLT, ↓reduceIte, Int.reduceBEq, Int.reduceBNe, Int.reduceAdd, Int.reduceSub, Int.reduceMul, hr']; try refine okTr_and rfl ?_)
    refine CallK.u2 (Writer_Fail s 3 0 1 (by decide)) rfl rfl ?_; (simp only [go_sem, Nat.reduceAdd, Nat.reduceMul, Int.reduceToNat, Nat.reduceLeDiff, Int.reduceLE, Int.reduceLT, ↓reduceIte, Int.reduceBEq, Int.reduceBNe, Int.reduceAdd, Int.reduceSub, Int.reduceMul]; try refine okTr_and rfl ?_)
    ((refine FinK.finB r102 [0, 1] ?_ ?_); (· first | with_reducible rfl | (simp [WS.header, hr']; done) | rfl); (· simp [resAL, resA1, loadA, oneOr, WS.header, hr']))
theorem header_Put (s : WS) (d : Hd) (i j : Nat) (h : i ≠ j) (hs : s.fine) (hb : 0 ≤ d.base) : Ct Tryz.prog 102 [.ref i 0, hdA d] [(i, wob j s), (j, wrow s)] (fun _ => .tup []) [(i, wob j (s.header d)), (j, wrow (s.header d))] (fun _ => []) := Ct.u2 (header_Put0 s d hs hb) i j h cl cl cl cl cl (wob_dead _ _) (wrow_dead _) clo
def bytesH (h : Hd) : List Int := if rightH h = true then headerB h else []
def errH (h : Hd) : Int := if rightH h = true then 0 else 3
theorem new_header (h : Hd) {n : Int} (hn : 27 ≤ n) : (WS.new n).header h = ⟨n, bytesH h, errH h⟩ ∧ ((WS.new n).header h).bytes = bytesH h := by
  by_cases hr : rightH h = true
  · have hl := (headerB_27 hr).2
    have e := header_fit (s := WS.new n) hr rfl (by rw [WS.new_is (by omega)]; simp; omega)
    rw [e, WS.new_is (by omega)]
    unfold bytesH errH
    rw [if_pos hr, if_pos hr]
    exact ⟨by simp, by simp [WS.bytes]⟩
  · unfold WS.header bytesH errH
    rw [if_neg hr, if_neg hr, if_neg hr, WS.new_is (by omega)]
    exact ⟨rfl, rfl⟩
theorem header_Bytes0 (h : Hd) (hb : 0 ≤ h.base) : Does Tryz.prog 27 [hdA h] [] (.tup [slA .u8 (bytesH h), iA (errH h)]) [] := by
  have f0 : (WS.new 27).fine := WS.fine.new (by omega)
  have hff := (f0.header h).len
  obtain ⟨e1, e2⟩ := new_header h (n := 27) (by omega)
  have e3 : ((WS.new 27).header h).code = errH h := by rw [e1]
  refine Does.runA Tryz.func27 b27 n27 Tryz.ntmps27 ?_; simp only [c27, go_sem, Nat.reduceAdd, Nat.reduceMul, Int.reduceToNat, Nat.reduceLeDiff, Int.reduceLE, Int.reduceLT, ↓reduceIte, Int.reduceBEq, Int.reduceBNe, Int.reduceAdd, Int.reduceSub, Int.reduceMul]; try refine okTr_and rfl ?_
  refine CallK.p (hMost) ?_; (simp only [go_sem, Nat.reduceAdd, Nat.reduceMul, Int.reduceToNat, Nat.reduceLeDiff, Int.reduceLE, Int.reduceLT, ↓reduceIte, Int.reduceBEq, Int.reduceBNe, Int.reduceAdd, Int.reduceSub, Int.reduceMul]; try refine okTr_and rfl ?_)
  refine CallK.n (pen_New 27) ?_; (simp only [go_sem, Nat.reduceAdd, Nat.reduceMul, Int.reduceToNat, Nat.reduceLeDiff, Int.reduceLE, Int.reduceLT, ↓reduceIte, Int.reduceBEq, Int.reduceBNe, Int.reduceAdd, Int.reduceSub, Int.reduceMul]; try refine okTr_and rfl ?_)
  refine CallK.u2 (header_Put (WS.new 27) h _ _ (by decide) f0 hb) rfl rfl ?_; (simp only [go_sem, Nat.reduceAdd, Nat.reduceMul, Int.reduceToNat, Nat.reduceLeDiff, Int.reduceLE, Int.reduceLT, ↓reduceIte, Int.reduceBEq, Int.reduceBNe, Int.reduceAdd, Int.reduceSub, Int.reduceMul]; try refine okTr_and rfl ?_)
  refine CallK.r2 (Writer_Bytes ((WS.new 27).header h) _ _ (by decide) hff) rfl rfl ?_; (simp only [go_sem, Nat.reduceAdd, Nat.reduceMul, Int.reduceToNat, Nat.reduceLeDiff, Int.reduceLE, Int.reduceLT, ↓reduceIte, Int.reduceBEq, Int.reduceBNe, Int.reduceAdd, Int.reduceSub, Int.reduceMul, e2, e3]; try refine okTr_and rfl ?_)
  exact FinK.finA r27 []
theorem header_Bytes (h : Hd) (hb : 0 ≤ h.base) : Ct Tryz.prog 27 [hdA h] [] (fun _ => .tup [slA .u8 (bytesH h), iA (errH h)]) [] (fun _ => []) := (header_Bytes0 h hb).toCt cl cl
end Go.Proofs.YtnfagphepkeedaaGreat
end
section
namespace Go.Proofs.YtnfagphepkeedaaGreat
open Go.RowKit

theorem byte_take (s : RS) (h0 : 0 ≤ s.at_) : s.byte = ((s.take 1).1, (s.take 1).2.getD 0 0) := by
  unfold RS.byte RS.take
  split
  · simp [List.getD_eq_getElem?_getD, List.getElem?_take, List.getElem?_drop]
  · rfl
theorem lets_eq (s : RS) : s.lets = if sameB (s.take 4).2 thol = true then (s.take 4).1 else (s.take 4).1.fail 14 s.at_ := by
  unfold RS.lets sameB
  by_cases h : (s.take 4).2 = thol
  · rw [if_neg (by rintro ⟨_, h'⟩; exact h' h), if_pos (by simpa using h)]
  · rw [if_neg (c := decide ((s.take 4).2 = thol) = true) (by simpa using h)]
    by_cases hc : (s.take 4).1.code = 0
    · rw [if_pos ⟨hc, h⟩]
    · rw [if_neg (by rintro ⟨h', _⟩; exact hc h'), fail_bad hc]
set_option maxRecDepth 100000 in
theorem header_begin0 (s : RS) (hs : ROk s) : Does Tryz.prog 155 [.ref 0 0] [rdr s] (iA s.hbegin.2) [rdr (s.hbegin.1)] := by
  obtain ⟨hk, hkl⟩ := lets_keep hs
  have hTb := take_bys hs.bys 4
  have hl := lets_eq s
  have hbt := byte_take s.lets hk.at0
  have hvr := byte_u8 hk.ok hk.bys
  have hv2 : s.hbegin = if (s.lets.take 1).1.code = 0 then (if 1 ≤ (s.lets.take 1).2.getD 0 0 ∧ (s.lets.take 1).2.getD 0 0 ≤ 3 then ((s.lets.take 1).1, (s.lets.take 1).2.getD 0 0) else ((s.lets.take 1).1.fail 8 s.lets.at_, 0)) else ((s.lets.take 1).1, 0) := rfl
  have hv0 : ¬ (s.lets.take 1).1.code = 0 → (s.lets.take 1).2.getD 0 0 = 0 := fun h => by rw [take_bad h]; rfl
  have hat : (s.lets.take 1).1.code = 0 → IntKind.i64.wrap ((s.lets.take 1).1.at_ - 1) = s.lets.at_ := fun h => by
    have h4 := (take_bytes hk h).2.2.2.1
    have h0 := hk.at0
    have h1 := hk.at1
    have h2 := hk.len
    rw [h4, IntWalk.i64_in _ (by omega)]; omega
  rw [hbt] at hvr
  obtain ⟨t, ht⟩ : ∃ t, (s.lets.take 1).1 = t := ⟨_, rfl⟩
  obtain ⟨v, hv⟩ : ∃ v, (s.lets.take 1).2.getD 0 0 = v := ⟨_, rfl⟩
  rw [ht, hv] at hbt
  rw [ht, hv] at hv2
  rw [ht, hv] at hv0
  rw [ht] at hat
  simp only [hv] at hvr
  have ev : IntKind.i64.wrap v = v := IntWalk.i64_in _ (by omega)
  refine Does.runA Tryz.func155 b155 n155 Tryz.ntmps155 ?_; simp only [c155, go_sem, Nat.reduceAdd, Nat.reduceMul, Int.reduceToNat, Nat.reduceLeDiff, Int.reduceLE, Int.reduceLT, ↓reduceIte, Int.reduceBEq, Int.reduceBNe, Int.reduceAdd, Int.reduceSub, Int.reduceMul]; try refine okTr_and rfl ?_
  refine CallK.r1 (Reader_At s 0) rfl ?_; (simp only [go_sem, Nat.reduceAdd, Nat.reduceMul, Int.reduceToNat, Nat.reduceLeDiff, Int.reduceLE, Int.reduceLT, ↓reduceIte, Int.reduceBEq, Int.reduceBNe, Int.reduceAdd, Int.reduceSub, Int.reduceMul]; try refine okTr_and rfl ?_)
  refine CallK.u1 (Reader_Take s 4 0 hs.ok) rfl ?_; (simp only [go_sem, Nat.reduceAdd, Nat.reduceMul, Int.reduceToNat, Nat.reduceLeDiff, Int.reduceLE, Int.reduceLT, ↓reduceIte, Int.reduceBEq, Int.reduceBNe, Int.reduceAdd, Int.reduceSub, Int.reduceMul, ints_u8, text_is hTb]; try refine okTr_and rfl ?_)
  by_cases hT : sameB (s.take 4).2 thol = true
  · rw [if_pos hT] at hl
    rw [← hl]
    (simp only [go_sem, Nat.reduceAdd, Nat.reduceMul, Int.reduceToNat, Nat.reduceLeDiff, Int.reduceLE, Int.reduceLT, ↓reduceIte, Int.reduceBEq, Int.reduceBNe, Int.reduceAdd, Int.reduceSub, Int.reduceMul, hT]; try refine okTr_and rfl ?_)
    refine CallK.u1 (Reader_Byte s.lets 0 hk.ok) rfl ?_; (simp only [go_sem, Nat.reduceAdd, Nat.reduceMul, Int.reduceToNat, Nat.reduceLeDiff, Int.reduceLE, Int.reduceLT, ↓reduceIte, Int.reduceBEq, Int.reduceBNe, Int.reduceAdd, Int.reduceSub, Int.reduceMul, hbt, ev]; try refine okTr_and rfl ?_)
    by_cases hc : t.code = 0
    · rw [if_pos hc] at hv2
      by_cases h1 : 1 ≤ v
      · have q1 : decide (v < 1) = false := decide_eq_false (by omega)
        by_cases h3 : v ≤ 3
        · have q3 : decide (3 < v) = false := decide_eq_false (by omega)
          rw [if_pos ⟨h1, h3⟩] at hv2
          (simp only [go_sem, Nat.reduceAdd, Nat.reduceMul, Int.reduceToNat, Nat.reduceLeDiff, Int.reduceLE, Int.reduceLT, ↓reduceIte, Int.reduceBEq, Int.reduceBNe, Int.reduceAdd, Int.reduceSub, Int.reduceMul, q1, q3]; try refine okTr_and rfl ?_)
          refine CallK.r1 (Reader_Good t 0) rfl ?_; (simp only [go_sem, Nat.reduceAdd, Nat.reduceMul, Int.reduceToNat, Nat.reduceLeDiff, Int.reduceLE, Int.reduceLT, ↓reduceIte, Int.reduceBEq, Int.reduceBNe, Int.reduceAdd, Int.reduceSub, Int.reduceMul, good_true hc]; try refine okTr_and rfl ?_)
          ((refine FinK.finB r155 [0] ?_ ?_); (· first | with_reducible rfl | (simp [hv2]; done) | rfl); (· simp [resAL, resA1, loadA, oneOr, hv2]))
        · have q3 : decide (3 < v) = true := decide_eq_true (by omega)
          rw [if_neg (by omega)] at hv2
          (simp only [go_sem, Nat.reduceAdd, Nat.reduceMul, Int.reduceToNat, Nat.reduceLeDiff, Int.reduceLE, Int.reduceLT, ↓reduceIte, Int.reduceBEq, Int.reduceBNe, Int.reduceAdd, Int.reduceSub, Int.reduceMul, q1, q3]; try refine okTr_and rfl ?_)
          refine CallK.r1 (Reader_At t 0) rfl ?_; (simp only [go_sem, Nat.reduceAdd, Nat.reduceMul, Int.reduceToNat, Nat.reduceLeDiff, Int.reduceLE, Int.reduceLT, ↓reduceIte, Int.reduceBEq, Int.reduceBNe, Int.reduceAdd, Int.reduceSub, Int.reduceMul, hat hc]; try refine okTr_and rfl ?_)
          refine CallK.u1 (Reader_Fail t 8 s.lets.at_ 0) rfl ?_; (simp only [go_sem, Nat.reduceAdd, Nat.reduceMul, Int.reduceToNat, Nat.reduceLeDiff, Int.reduceLE, Int.reduceLT, ↓reduceIte, Int.reduceBEq, Int.reduceBNe, Int.reduceAdd, Int.reduceSub, Int.reduceMul]; try refine okTr_and rfl ?_)
          refine CallK.r1 (Reader_Good (t.fail 8 s.lets.at_) 0) rfl ?_; (simp only [go_sem, Nat.reduceAdd, Nat.reduceMul, Int.reduceToNat, Nat.reduceLeDiff, Int.reduceLE, Int.reduceLT, ↓reduceIte, Int.reduceBEq, Int.reduceBNe, Int.reduceAdd, Int.reduceSub, Int.reduceMul, good_false (fail_not0 8 s.lets.at_ hc (by decide))]; try refine okTr_and rfl ?_)
          ((refine FinK.finB r155 [0] ?_ ?_); (· first | with_reducible rfl | (simp [hv2]; done) | rfl); (· simp [resAL, resA1, loadA, oneOr, hv2]))
      · have q1 : decide (v < 1) = true := decide_eq_true (by omega)
        rw [if_neg (by omega)] at hv2
        (simp only [go_sem, Nat.reduceAdd, Nat.reduceMul, Int.reduceToNat, Nat.reduceLeDiff, Int.reduceLE, Int.reduceLT, ↓reduceIte, Int.reduceBEq, Int.reduceBNe, Int.reduceAdd, Int.reduceSub, Int.reduceMul, q1]; try refine okTr_and rfl ?_)
        refine CallK.r1 (Reader_At t 0) rfl ?_; (simp only [go_sem, Nat.reduceAdd, Nat.reduceMul, Int.reduceToNat, Nat.reduceLeDiff, Int.reduceLE, Int.reduceLT, ↓reduceIte, Int.reduceBEq, Int.reduceBNe, Int.reduceAdd, Int.reduceSub, Int.reduceMul, hat hc]; try refine okTr_and rfl ?_)
        refine CallK.u1 (Reader_Fail t 8 s.lets.at_ 0) rfl ?_; (simp only [go_sem, Nat.reduceAdd, Nat.reduceMul, Int.reduceToNat, Nat.reduceLeDiff, Int.reduceLE, Int.reduceLT, ↓reduceIte, Int.reduceBEq, Int.reduceBNe, Int.reduceAdd, Int.reduceSub, Int.reduceMul]; try refine okTr_and rfl ?_)
        refine CallK.r1 (Reader_Good (t.fail 8 s.lets.at_) 0) rfl ?_; (simp only [go_sem, Nat.reduceAdd, Nat.reduceMul, Int.reduceToNat, Nat.reduceLeDiff, Int.reduceLE, Int.reduceLT, ↓reduceIte, Int.reduceBEq, Int.reduceBNe, Int.reduceAdd, Int.reduceSub, Int.reduceMul, good_false (fail_not0 8 s.lets.at_ hc (by decide))]; try refine okTr_and rfl ?_)
        ((refine FinK.finB r155 [0] ?_ ?_); (· first | with_reducible rfl | (simp [hv2]; done) | rfl); (· simp [resAL, resA1, loadA, oneOr, hv2]))
    · rw [if_neg hc] at hv2
      have q0 := hv0 hc
      have q1 : decide (v < 1) = true := decide_eq_true (by omega)
      (simp only [go_sem, Nat.reduceAdd, Nat.reduceMul, Int.reduceToNat, Nat.reduceLeDiff, Int.reduceLE, Int.reduceLT, ↓reduceIte, Int.reduceBEq, Int.reduceBNe, Int.reduceAdd, Int.reduceSub, Int.reduceMul, q1]; try refine okTr_and rfl ?_)
      refine CallK.r1 (Reader_At t 0) rfl ?_; (simp only [go_sem, Nat.reduceAdd, Nat.reduceMul, Int.reduceToNat, Nat.reduceLeDiff, Int.reduceLE, Int.reduceLT, ↓reduceIte, Int.reduceBEq, Int.reduceBNe, Int.reduceAdd, Int.reduceSub, Int.reduceMul]; try refine okTr_and rfl ?_)
      refine CallK.u1 (Reader_Fail t 8 _ 0) rfl ?_; (simp only [go_sem, Nat.reduceAdd, Nat.reduceMul, Int.reduceToNat, Nat.reduceLeDiff, Int.reduceLE, Int.reduceLT, ↓reduceIte, Int.reduceBEq, Int.reduceBNe, Int.reduceAdd, Int.reduceSub, Int.reduceMul, fail_bad hc]; try refine okTr_and rfl ?_)
      refine CallK.r1 (Reader_Good t 0) rfl ?_; (simp only [go_sem, Nat.reduceAdd, Nat.reduceMul, Int.reduceToNat, Nat.reduceLeDiff, Int.reduceLE, Int.reduceLT, ↓reduceIte, Int.reduceBEq, Int.reduceBNe, Int.reduceAdd, Int.reduceSub, Int.reduceMul, good_false hc]; try refine okTr_and rfl ?_)
      ((refine FinK.finB r155 [0] ?_ ?_); (· first | with_reducible rfl | (simp [hv2]; done) | rfl); (· simp [resAL, resA1, loadA, oneOr, hv2]))
  · have hT' : sameB (s.take 4).2 thol = false := by simpa using hT
    rw [if_neg hT] at hl
    (simp only [go_sem, Nat.reduceAdd, Nat.reduceMul, Int.reduceToNat, Nat.reduceLeDiff, Int.reduceLE, Int.reduceLT, ↓reduceIte, Int.reduceBEq, Int.reduceBNe, Int.reduceAdd, Int.reduceSub, Int.reduceMul, hT']; try refine okTr_and rfl ?_)
    refine CallK.u1 (Reader_Fail (s.take 4).1 14 s.at_ 0) rfl ?_; (simp only [go_sem, Nat.reduceAdd, Nat.reduceMul, Int.reduceToNat, Nat.reduceLeDiff, Int.reduceLE, Int.reduceLT, ↓reduceIte, Int.reduceBEq, Int.reduceBNe, Int.reduceAdd, Int.reduceSub, Int.reduceMul, ← hl]; try refine okTr_and rfl ?_)
    refine CallK.u1 (Reader_Byte s.lets 0 hk.ok) rfl ?_; (simp only [go_sem, Nat.reduceAdd, Nat.reduceMul, Int.reduceToNat, Nat.reduceLeDiff, Int.reduceLE, Int.reduceLT, ↓reduceIte, Int.reduceBEq, Int.reduceBNe, Int.reduceAdd, Int.reduceSub, Int.reduceMul, hbt, ev]; try refine okTr_and rfl ?_)
    by_cases hc : t.code = 0
    · rw [if_pos hc] at hv2
      by_cases h1 : 1 ≤ v
      · have q1 : decide (v < 1) = false := decide_eq_false (by omega)
        by_cases h3 : v ≤ 3
        · have q3 : decide (3 < v) = false := decide_eq_false (by omega)
          rw [if_pos ⟨h1, h3⟩] at hv2
          (simp only [go_sem, Nat.reduceAdd, Nat.reduceMul, Int.reduceToNat, Nat.reduceLeDiff, Int.reduceLE, Int.reduceLT, ↓reduceIte, Int.reduceBEq, Int.reduceBNe, Int.reduceAdd, Int.reduceSub, Int.reduceMul, q1, q3]; try refine okTr_and rfl ?_)
          refine CallK.r1 (Reader_Good t 0) rfl ?_; (simp only [go_sem, Nat.reduceAdd, Nat.reduceMul, Int.reduceToNat, Nat.reduceLeDiff, Int.reduceLE, Int.reduceLT, ↓reduceIte, Int.reduceBEq, Int.reduceBNe, Int.reduceAdd, Int.reduceSub, Int.reduceMul, good_true hc]; try refine okTr_and rfl ?_)
          ((refine FinK.finB r155 [0] ?_ ?_); (· first | with_reducible rfl | (simp [hv2]; done) | rfl); (· simp [resAL, resA1, loadA, oneOr, hv2]))
        · have q3 : decide (3 < v) = true := decide_eq_true (by omega)
          rw [if_neg (by omega)] at hv2
          (simp only [go_sem, Nat.reduceAdd, Nat.reduceMul, Int.reduceToNat, Nat.reduceLeDiff, Int.reduceLE, Int.reduceLT, ↓reduceIte, Int.reduceBEq, Int.reduceBNe, Int.reduceAdd, Int.reduceSub, Int.reduceMul, q1, q3]; try refine okTr_and rfl ?_)
          refine CallK.r1 (Reader_At t 0) rfl ?_; (simp only [go_sem, Nat.reduceAdd, Nat.reduceMul, Int.reduceToNat, Nat.reduceLeDiff, Int.reduceLE, Int.reduceLT, ↓reduceIte, Int.reduceBEq, Int.reduceBNe, Int.reduceAdd, Int.reduceSub, Int.reduceMul, hat hc]; try refine okTr_and rfl ?_)
          refine CallK.u1 (Reader_Fail t 8 s.lets.at_ 0) rfl ?_; (simp only [go_sem, Nat.reduceAdd, Nat.reduceMul, Int.reduceToNat, Nat.reduceLeDiff, Int.reduceLE, Int.reduceLT, ↓reduceIte, Int.reduceBEq, Int.reduceBNe, Int.reduceAdd, Int.reduceSub, Int.reduceMul]; try refine okTr_and rfl ?_)
          refine CallK.r1 (Reader_Good (t.fail 8 s.lets.at_) 0) rfl ?_; (simp only [go_sem, Nat.reduceAdd, Nat.reduceMul, Int.reduceToNat, Nat.reduceLeDiff, Int.reduceLE, Int.reduceLT, ↓reduceIte, Int.reduceBEq, Int.reduceBNe, Int.reduceAdd, Int.reduceSub, Int.reduceMul, good_false (fail_not0 8 s.lets.at_ hc (by decide))]; try refine okTr_and rfl ?_)
          ((refine FinK.finB r155 [0] ?_ ?_); (· first | with_reducible rfl | (simp [hv2]; done) | rfl); (· simp [resAL, resA1, loadA, oneOr, hv2]))
      · have q1 : decide (v < 1) = true := decide_eq_true (by omega)
        rw [if_neg (by omega)] at hv2
        (simp only [go_sem, Nat.reduceAdd, Nat.reduceMul, Int.reduceToNat, Nat.reduceLeDiff, Int.reduceLE, Int.reduceLT, ↓reduceIte, Int.reduceBEq, Int.reduceBNe, Int.reduceAdd, Int.reduceSub, Int.reduceMul, q1]; try refine okTr_and rfl ?_)
        refine CallK.r1 (Reader_At t 0) rfl ?_; (simp only [go_sem, Nat.reduceAdd, Nat.reduceMul, Int.reduceToNat, Nat.reduceLeDiff, Int.reduceLE, Int.reduceLT, ↓reduceIte, Int.reduceBEq, Int.reduceBNe, Int.reduceAdd, Int.reduceSub, Int.reduceMul, hat hc]; try refine okTr_and rfl ?_)
        refine CallK.u1 (Reader_Fail t 8 s.lets.at_ 0) rfl ?_; (simp only [go_sem, Nat.reduceAdd, Nat.reduceMul, Int.reduceToNat, Nat.reduceLeDiff, Int.reduceLE, Int.reduceLT, ↓reduceIte, Int.reduceBEq, Int.reduceBNe, Int.reduceAdd, Int.reduceSub, Int.reduceMul]; try refine okTr_and rfl ?_)
        refine CallK.r1 (Reader_Good (t.fail 8 s.lets.at_) 0) rfl ?_; (simp only [go_sem, Nat.reduceAdd, Nat.reduceMul, Int.reduceToNat, Nat.reduceLeDiff, Int.reduceLE, Int.reduceLT, ↓reduceIte, Int.reduceBEq, Int.reduceBNe, Int.reduceAdd, Int.reduceSub, Int.reduceMul, good_false (fail_not0 8 s.lets.at_ hc (by decide))]; try refine okTr_and rfl ?_)
        ((refine FinK.finB r155 [0] ?_ ?_); (· first | with_reducible rfl | (simp [hv2]; done) | rfl); (· simp [resAL, resA1, loadA, oneOr, hv2]))
    · rw [if_neg hc] at hv2
      have q0 := hv0 hc
      have q1 : decide (v < 1) = true := decide_eq_true (by omega)
      (simp only [go_sem, Nat.reduceAdd, Nat.reduceMul, Int.reduceToNat, Nat.reduceLeDiff, Int.reduceLE, Int.reduceLT, ↓reduceIte, Int.reduceBEq, Int.reduceBNe, Int.reduceAdd, Int.reduceSub, Int.reduceMul, q1]; try refine okTr_and rfl ?_)
      refine CallK.r1 (Reader_At t 0) rfl ?_; (simp only [go_sem, Nat.reduceAdd, Nat.reduceMul, Int.reduceToNat, Nat.reduceLeDiff, Int.reduceLE, Int.reduceLT, ↓reduceIte, Int.reduceBEq, Int.reduceBNe, Int.reduceAdd, Int.reduceSub, Int.reduceMul]; try refine okTr_and rfl ?_)
      refine CallK.u1 (Reader_Fail t 8 _ 0) rfl ?_; (simp only [go_sem, Nat.reduceAdd, Nat.reduceMul, Int.reduceToNat, Nat.reduceLeDiff, Int.reduceLE, Int.reduceLT, ↓reduceIte, Int.reduceBEq, Int.reduceBNe, Int.reduceAdd, Int.reduceSub, Int.reduceMul, fail_bad hc]; try refine okTr_and rfl ?_)
      refine CallK.r1 (Reader_Good t 0) rfl ?_; (simp only [go_sem, Nat.reduceAdd, Nat.reduceMul, Int.reduceToNat, Nat.reduceLeDiff, Int.reduceLE, Int.reduceLT, ↓reduceIte, Int.reduceBEq, Int.reduceBNe, Int.reduceAdd, Int.reduceSub, Int.reduceMul, good_false hc]; try refine okTr_and rfl ?_)
      ((refine FinK.finB r155 [0] ?_ ?_); (· first | with_reducible rfl | (simp [hv2]; done) | rfl); (· simp [resAL, resA1, loadA, oneOr, hv2]))
theorem header_begin (s : RS) (i : Nat) (hs : ROk s) : Ct Tryz.prog 155 [.ref i 0] [(i, rdr s)] (fun _ => iA s.hbegin.2) [(i, rdr (s.hbegin.1))] (fun _ => []) := Ct.u1 (header_begin0 s hs) i cl (fun ρ => rdr_ren ρ _) (fun ρ => rdr_ren ρ _) (rdr_dead _) cl
set_option maxRecDepth 100000 in
theorem header_Read0 (s : RS) (hs : ROk s) : Does Tryz.prog 103 [.ref 0 0] [rdr s] (hdA s.header.2) [rdr (s.header.1)] := by
  obtain ⟨ka, _⟩ := hbegin_keep hs
  obtain ⟨kb, _⟩ := epo_keep ka epRight
  obtain ⟨kc, kl⟩ := hplain_keep hs
  have e0 : s.hplain = (((s.hbegin.1.epo epRight).1.hbase s.hbegin.2).1, ⟨s.hbegin.2, (s.hbegin.1.epo epRight).2, ((s.hbegin.1.epo epRight).1.hbase s.hbegin.2).2⟩) := rfl
  have hgood : (s.hplain.1.fixed 4).1.code = 0 → rightH s.hplain.2 = true ∧ 0 ≤ s.hplain.2.base ∧ s.from s.hplain.1 = plainB s.hplain.2 := fun h => by
    obtain ⟨t1, t2, t3, t4, t5⟩ := take_bytes kc (n := 4) h
    obtain ⟨p1, p2, p3, p4, p5⟩ := hplain_is hs t1
    exact ⟨p2, p3, from_take hs.at0 (by omega) p5 hs.at1⟩
  have e : s.header = if (s.hplain.1.fixed 4).1.code = 0 then (if (s.hplain.1.fixed 4).2 = crcI (s.from s.hplain.1) then ((s.hplain.1.fixed 4).1, s.hplain.2) else ((s.hplain.1.fixed 4).1.fail 6 s.hplain.1.at_, hd0)) else ((s.hplain.1.fixed 4).1, hd0) := rfl
  obtain ⟨A, hA⟩ : ∃ A, s.hbegin = A := ⟨_, rfl⟩
  rw [hA] at e0 ka kb
  obtain ⟨B, hB⟩ : ∃ B, A.1.epo epRight = B := ⟨_, rfl⟩
  rw [hB] at e0 kb
  refine Does.runA Tryz.func103 b103 n103 Tryz.ntmps103 ?_; simp only [c103, go_sem, Nat.reduceAdd, Nat.reduceMul, Int.reduceToNat, Nat.reduceLeDiff, Int.reduceLE, Int.reduceLT, ↓reduceIte, Int.reduceBEq, Int.reduceBNe, Int.reduceAdd, Int.reduceSub, Int.reduceMul]; try refine okTr_and rfl ?_
  refine CallK.u1 (header_begin s 0 hs) rfl ?_; (simp only [go_sem, Nat.reduceAdd, Nat.reduceMul, Int.reduceToNat, Nat.reduceLeDiff, Int.reduceLE, Int.reduceLT, ↓reduceIte, Int.reduceBEq, Int.reduceBNe, Int.reduceAdd, Int.reduceSub, Int.reduceMul, hA]; try refine okTr_and rfl ?_)
  refine CallK.u1 (epoch_Read A.1 0 ka) rfl ?_; (simp only [go_sem, Nat.reduceAdd, Nat.reduceMul, Int.reduceToNat, Nat.reduceLeDiff, Int.reduceLE, Int.reduceLT, ↓reduceIte, Int.reduceBEq, Int.reduceBNe, Int.reduceAdd, Int.reduceSub, Int.reduceMul, hB]; try refine okTr_and rfl ?_)
  refine CallK.p (header_based A.2) ?_
  by_cases hv : A.2 = 1
  · have qv : (A.2 == 1) = true := by simpa using hv
    obtain ⟨C, hC⟩ : ∃ C, B.1.epo epPos = C := ⟨_, rfl⟩
    have hC' : B.1.hbase A.2 = C := by unfold RS.hbase; rw [if_pos hv, hC]
    rw [hC'] at e0
    rw [e0] at kc
    rw [e0] at hgood
    rw [e0] at e
    simp only at kc hgood e
    obtain ⟨F, hF⟩ : ∃ F, C.1.fixed 4 = F := ⟨_, rfl⟩
    have hF' : C.1.fixed (min (max 4 0) 8) = F := hF
    rw [hF] at hgood
    rw [hF] at e
    (simp only [go_sem, Nat.reduceAdd, Nat.reduceMul, Int.reduceToNat, Nat.reduceLeDiff, Int.reduceLE, Int.reduceLT, ↓reduceIte, Int.reduceBEq, Int.reduceBNe, Int.reduceAdd, Int.reduceSub, Int.reduceMul, qv]; try refine okTr_and rfl ?_)
    refine CallK.u1 (epoch_ReadPos B.1 0 kb) rfl ?_; (simp only [go_sem, Nat.reduceAdd, Nat.reduceMul, Int.reduceToNat, Nat.reduceLeDiff, Int.reduceLE, Int.reduceLT, ↓reduceIte, Int.reduceBEq, Int.reduceBNe, Int.reduceAdd, Int.reduceSub, Int.reduceMul, hC]; try refine okTr_and rfl ?_)
    refine CallK.r1 (Reader_At C.1 0) rfl ?_; (simp only [go_sem, Nat.reduceAdd, Nat.reduceMul, Int.reduceToNat, Nat.reduceLeDiff, Int.reduceLE, Int.reduceLT, ↓reduceIte, Int.reduceBEq, Int.reduceBNe, Int.reduceAdd, Int.reduceSub, Int.reduceMul]; try refine okTr_and rfl ?_)
    refine CallK.u1 (blob_ReadFixed C.1 4 0 kc) rfl ?_; (simp only [go_sem, Nat.reduceAdd, Nat.reduceMul, Int.reduceToNat, Nat.reduceLeDiff, Int.reduceLE, Int.reduceLT, ↓reduceIte, Int.reduceBEq, Int.reduceBNe, Int.reduceAdd, Int.reduceSub, Int.reduceMul, hF']; try refine okTr_and rfl ?_)
    by_cases hc : F.1.code = 0
    · obtain ⟨hr, hb, hfr⟩ := hgood hc
      rw [if_pos hc, hfr] at e
      have hp := plainB_bys hr hb
      have hpl := (headerB_27 hr).1
      have eb := sum_u64 hp
      refine CallK.r1 (Reader_Good F.1 0) rfl ?_; (simp only [go_sem, Nat.reduceAdd, Nat.reduceMul, Int.reduceToNat, Nat.reduceLeDiff, Int.reduceLE, Int.reduceLT, ↓reduceIte, Int.reduceBEq, Int.reduceBNe, Int.reduceAdd, Int.reduceSub, Int.reduceMul, good_true hc]; try refine okTr_and rfl ?_)
      refine CallK.p (header_plain ⟨A.2, B.2, C.2⟩ hr hb) ?_; (simp only [go_sem, Nat.reduceAdd, Nat.reduceMul, Int.reduceToNat, Nat.reduceLeDiff, Int.reduceLE, Int.reduceLT, ↓reduceIte, Int.reduceBEq, Int.reduceBNe, Int.reduceAdd, Int.reduceSub, Int.reduceMul]; try refine okTr_and rfl ?_)
      refine CallK.p (crc_Sum (plainB ⟨A.2, B.2, C.2⟩) hp (by omega)) ?_; (simp only [go_sem, Nat.reduceAdd, Nat.reduceMul, Int.reduceToNat, Nat.reduceLeDiff, Int.reduceLE, Int.reduceLT, ↓reduceIte, Int.reduceBEq, Int.reduceBNe, Int.reduceAdd, Int.reduceSub, Int.reduceMul, eb]; try refine okTr_and rfl ?_)
      by_cases hx : F.2 = crcI (plainB ⟨A.2, B.2, C.2⟩)
      · have q2 : (F.2 != crcI (plainB ⟨A.2, B.2, C.2⟩)) = false := by simpa using hx
        rw [if_pos hx] at e
        (simp only [go_sem, Nat.reduceAdd, Nat.reduceMul, Int.reduceToNat, Nat.reduceLeDiff, Int.reduceLE, Int.reduceLT, ↓reduceIte, Int.reduceBEq, Int.reduceBNe, Int.reduceAdd, Int.reduceSub, Int.reduceMul, q2]; try refine okTr_and rfl ?_)
        ((refine FinK.finB r103 [0] ?_ ?_); (· first | with_reducible rfl | (simp [e]; done) | rfl); (· simp [resAL, resA1, loadA, oneOr, e]))
      · have q2 : (F.2 != crcI (plainB ⟨A.2, B.2, C.2⟩)) = true := by simpa using hx
        rw [if_neg hx] at e
        (simp only [go_sem, Nat.reduceAdd, Nat.reduceMul, Int.reduceToNat, Nat.reduceLeDiff, Int.reduceLE, Int.reduceLT, ↓reduceIte, Int.reduceBEq, Int.reduceBNe, Int.reduceAdd, Int.reduceSub, Int.reduceMul, q2]; try refine okTr_and rfl ?_)
        refine CallK.u1 (Reader_Fail F.1 6 C.1.at_ 0) rfl ?_; (simp only [go_sem, Nat.reduceAdd, Nat.reduceMul, Int.reduceToNat, Nat.reduceLeDiff, Int.reduceLE, Int.reduceLT, ↓reduceIte, Int.reduceBEq, Int.reduceBNe, Int.reduceAdd, Int.reduceSub, Int.reduceMul]; try refine okTr_and rfl ?_)
        ((refine FinK.finB r103 [0] ?_ ?_); (· first | with_reducible rfl | (simp [e, hd0]; done) | rfl); (· simp [resAL, resA1, loadA, oneOr, e, hd0]))
    · rw [if_neg hc] at e
      refine CallK.r1 (Reader_Good F.1 0) rfl ?_; (simp only [go_sem, Nat.reduceAdd, Nat.reduceMul, Int.reduceToNat, Nat.reduceLeDiff, Int.reduceLE, Int.reduceLT, ↓reduceIte, Int.reduceBEq, Int.reduceBNe, Int.reduceAdd, Int.reduceSub, Int.reduceMul, good_false hc]; try refine okTr_and rfl ?_)
      ((refine FinK.finB r103 [0] ?_ ?_); (· first | with_reducible rfl | (simp [e, hd0]; done) | rfl); (· simp [resAL, resA1, loadA, oneOr, e, hd0]))
  · have qv : (A.2 == 1) = false := by simpa using hv
    have hC' : B.1.hbase A.2 = (B.1, 0) := by unfold RS.hbase; rw [if_neg hv]
    rw [hC'] at e0
    rw [e0] at kc
    rw [e0] at hgood
    rw [e0] at e
    simp only at kc hgood e
    obtain ⟨F, hF⟩ : ∃ F, B.1.fixed 4 = F := ⟨_, rfl⟩
    have hF' : B.1.fixed (min (max 4 0) 8) = F := hF
    rw [hF] at hgood
    rw [hF] at e
    (simp only [go_sem, Nat.reduceAdd, Nat.reduceMul, Int.reduceToNat, Nat.reduceLeDiff, Int.reduceLE, Int.reduceLT, ↓reduceIte, Int.reduceBEq, Int.reduceBNe, Int.reduceAdd, Int.reduceSub, Int.reduceMul, qv]; try refine okTr_and rfl ?_)
    refine CallK.r1 (Reader_At B.1 0) rfl ?_; (simp only [go_sem, Nat.reduceAdd, Nat.reduceMul, Int.reduceToNat, Nat.reduceLeDiff, Int.reduceLE, Int.reduceLT, ↓reduceIte, Int.reduceBEq, Int.reduceBNe, Int.reduceAdd, Int.reduceSub, Int.reduceMul]; try refine okTr_and rfl ?_)
    refine CallK.u1 (blob_ReadFixed B.1 4 0 kc) rfl ?_; (simp only [go_sem, Nat.reduceAdd, Nat.reduceMul, Int.reduceToNat, Nat.reduceLeDiff, Int.reduceLE, Int.reduceLT, ↓reduceIte, Int.reduceBEq, Int.reduceBNe, Int.reduceAdd, Int.reduceSub, Int.reduceMul, hF']; try refine okTr_and rfl ?_)
    by_cases hc : F.1.code = 0
    · obtain ⟨hr, hb, hfr⟩ := hgood hc
      rw [if_pos hc, hfr] at e
      have hp := plainB_bys hr hb
      have hpl := (headerB_27 hr).1
      have eb := sum_u64 hp
      refine CallK.r1 (Reader_Good F.1 0) rfl ?_; (simp only [go_sem, Nat.reduceAdd, Nat.reduceMul, Int.reduceToNat, Nat.reduceLeDiff, Int.reduceLE, Int.reduceLT, ↓reduceIte, Int.reduceBEq, Int.reduceBNe, Int.reduceAdd, Int.reduceSub, Int.reduceMul, good_true hc]; try refine okTr_and rfl ?_)
      refine CallK.p (header_plain ⟨A.2, B.2, 0⟩ hr hb) ?_; (simp only [go_sem, Nat.reduceAdd, Nat.reduceMul, Int.reduceToNat, Nat.reduceLeDiff, Int.reduceLE, Int.reduceLT, ↓reduceIte, Int.reduceBEq, Int.reduceBNe, Int.reduceAdd, Int.reduceSub, Int.reduceMul]; try refine okTr_and rfl ?_)
      refine CallK.p (crc_Sum (plainB ⟨A.2, B.2, 0⟩) hp (by omega)) ?_; (simp only [go_sem, Nat.reduceAdd, Nat.reduceMul, Int.reduceToNat, Nat.reduceLeDiff, Int.reduceLE, Int.reduceLT, ↓reduceIte, Int.reduceBEq, Int.reduceBNe, Int.reduceAdd, Int.reduceSub, Int.reduceMul, eb]; try refine okTr_and rfl ?_)
      by_cases hx : F.2 = crcI (plainB ⟨A.2, B.2, 0⟩)
      · have q2 : (F.2 != crcI (plainB ⟨A.2, B.2, 0⟩)) = false := by simpa using hx
        rw [if_pos hx] at e
        (simp only [go_sem, Nat.reduceAdd, Nat.reduceMul, Int.reduceToNat, Nat.reduceLeDiff, Int.reduceLE, Int.reduceLT, ↓reduceIte, Int.reduceBEq, Int.reduceBNe, Int.reduceAdd, Int.reduceSub, Int.reduceMul, q2]; try refine okTr_and rfl ?_)
        ((refine FinK.finB r103 [0] ?_ ?_); (· first | with_reducible rfl | (simp [e]; done) | rfl); (· simp [resAL, resA1, loadA, oneOr, e]))
      · have q2 : (F.2 != crcI (plainB ⟨A.2, B.2, 0⟩)) = true := by simpa using hx
        rw [if_neg hx] at e
        (simp only [go_sem, Nat.reduceAdd, Nat.reduceMul, Int.reduceToNat, Nat.reduceLeDiff, Int.reduceLE, Int.reduceLT, ↓reduceIte, Int.reduceBEq, Int.reduceBNe, Int.reduceAdd, Int.reduceSub, Int.reduceMul, q2]; try refine okTr_and rfl ?_)
        refine CallK.u1 (Reader_Fail F.1 6 B.1.at_ 0) rfl ?_; (simp only [go_sem, Nat.reduceAdd, Nat.reduceMul, Int.reduceToNat, Nat.reduceLeDiff, Int.reduceLE, Int.reduceLT, ↓reduceIte, Int.reduceBEq, Int.reduceBNe, Int.reduceAdd, Int.reduceSub, Int.reduceMul]; try refine okTr_and rfl ?_)
        ((refine FinK.finB r103 [0] ?_ ?_); (· first | with_reducible rfl | (simp [e, hd0]; done) | rfl); (· simp [resAL, resA1, loadA, oneOr, e, hd0]))
    · rw [if_neg hc] at e
      refine CallK.r1 (Reader_Good F.1 0) rfl ?_; (simp only [go_sem, Nat.reduceAdd, Nat.reduceMul, Int.reduceToNat, Nat.reduceLeDiff, Int.reduceLE, Int.reduceLT, ↓reduceIte, Int.reduceBEq, Int.reduceBNe, Int.reduceAdd, Int.reduceSub, Int.reduceMul, good_false hc]; try refine okTr_and rfl ?_)
      ((refine FinK.finB r103 [0] ?_ ?_); (· first | with_reducible rfl | (simp [e, hd0]; done) | rfl); (· simp [resAL, resA1, loadA, oneOr, e, hd0]))
theorem header_Read (s : RS) (i : Nat) (hs : ROk s) : Ct Tryz.prog 103 [.ref i 0] [(i, rdr s)] (fun _ => hdA s.header.2) [(i, rdr (s.header.1))] (fun _ => []) := Ct.u1 (header_Read0 s hs) i cl (fun ρ => rdr_ren ρ _) (fun ρ => rdr_ren ρ _) (rdr_dead _) cl
end Go.Proofs.YtnfagphepkeedaaGreat
end
section
namespace Go.Proofs.YtnfagphepkeedaaGreat
open Go.RowKit

end Go.Proofs.YtnfagphepkeedaaGreat
end
section
namespace Go.Proofs.YtnfagphepkeedaaGreat
open Go.RowKit

end Go.Proofs.YtnfagphepkeedaaGreat
end
section
namespace Go.Proofs.YtnfagphepkeedaaGreat
open Go.RowKit

theorem Reader_End0 (s : RS) (hs : ROk s) : Does Tryz.prog 39 [.ref 0 0] [rdr s] (.tup []) [rdr (s.rest9)] := by
  refine Does.runA Tryz.func39 b39 n39 Tryz.ntmps39 ?_; simp only [c39, go_sem, Nat.reduceAdd, Nat.reduceMul, Int.reduceToNat, Nat.reduceLeDiff, Int.reduceLE, Int.reduceLT, ↓reduceIte, Int.reduceBEq, Int.reduceBNe, Int.reduceAdd, Int.reduceSub, Int.reduceMul]; try refine okTr_and rfl ?_
  refine CallK.r1 (Reader_Left s 0 hs.ok) rfl ?_
  by_cases h : 0 < s.left
  · have q : decide (0 < s.left) = true := decide_eq_true h
    have e : s.rest9 = s.fail 9 s.at_ := by unfold RS.rest9; rw [if_pos h]
    (simp only [go_sem, Nat.reduceAdd, Nat.reduceMul, Int.reduceToNat, Nat.reduceLeDiff, Int.reduceLE, Int.reduceLT, ↓reduceIte, Int.reduceBEq, Int.reduceBNe, Int.reduceAdd, Int.reduceSub, Int.reduceMul, q]; try refine okTr_and rfl ?_)
    refine CallK.u1 (Reader_Fail s 9 s.at_ 0) rfl ?_; (simp only [go_sem, Nat.reduceAdd, Nat.reduceMul, Int.reduceToNat, Nat.reduceLeDiff, Int.reduceLE, Int.reduceLT, ↓reduceIte, Int.reduceBEq, Int.reduceBNe, Int.reduceAdd, Int.reduceSub, Int.reduceMul]; try refine okTr_and rfl ?_)
    ((refine FinK.finB r39 [0] ?_ ?_); (· first | with_reducible rfl | (simp [e]; done) | rfl); (· simp [resAL, resA1, loadA, oneOr, e]))
  · have q : decide (0 < s.left) = false := decide_eq_false h
    have e : s.rest9 = s := by unfold RS.rest9; rw [if_neg h]
    (simp only [go_sem, Nat.reduceAdd, Nat.reduceMul, Int.reduceToNat, Nat.reduceLeDiff, Int.reduceLE, Int.reduceLT, ↓reduceIte, Int.reduceBEq, Int.reduceBNe, Int.reduceAdd, Int.reduceSub, Int.reduceMul, q]; try refine okTr_and rfl ?_)
    ((refine FinK.finB r39 [0] ?_ ?_); (· first | with_reducible rfl | (simp [e]; done) | rfl); (· simp [resAL, resA1, loadA, oneOr, e]))
theorem Reader_End (s : RS) (i : Nat) (hs : ROk s) : Ct Tryz.prog 39 [.ref i 0] [(i, rdr s)] (fun _ => .tup []) [(i, rdr (s.rest9))] (fun _ => []) := Ct.u1 (Reader_End0 s hs) i cl (fun ρ => rdr_ren ρ _) (fun ρ => rdr_ren ρ _) (rdr_dead _) cl
theorem ROk.rest9 {s : RS} (h : ROk s) : ROk s.rest9 := by
  unfold RS.rest9; split
  · exact h.fail _ _
  · exact h
end Go.Proofs.YtnfagphepkeedaaGreat
end
