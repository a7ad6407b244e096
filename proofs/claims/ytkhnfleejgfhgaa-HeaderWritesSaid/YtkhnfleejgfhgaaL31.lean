/-
  Chapter 31: HeaderReads, HeaderWrites.
-/
import Derived.Test.YtkhnfleejgfhgaaK46
set_option linter.all false
set_option linter.unusedSimpArgs false
set_option linter.unusedVariables false
set_option linter.unnecessarySimpa false
namespace Go.Proofs.Ytkhnfleejgfhgaa
open Go.RowKit

theorem hsame_yes {l m : List Int} (h : l = m) : sameB l m = true := by rw [h]; exact same_self m
theorem hbys_app {a b : List Int} (ha : Bys a) (hb : Bys b) : Bys (a ++ b) := fun x hx => by rcases List.mem_append.1 hx with hx | hx; exact ha x hx; exact hb x hx
theorem cl_fat {s : RS} (h : Cl s) (hc : s.code = 0) : s.fat = 0 := h hc
theorem getH_is {b : List Int} (hb : Bys b) (hn : b.length ≤ 140737488355328) : (getH b).1 = (RS.new b).header.2 ∧ (getH b).2.2 = ((RS.new b).header.1.code, (RS.new b).header.1.fat) := by
  have hcl := ((Cl.new b).header)
  unfold getH
  by_cases hc : (RS.new b).header.1.code = 0
  · rw [if_pos hc, hcl hc, hc]; exact ⟨rfl, rfl⟩
  · rw [if_neg hc, header_bad hc]; exact ⟨rfl, rfl⟩
theorem Cl.hbegin {s : RS} (h : Cl s) : Cl s.hbegin.1 := h.lets.vers
theorem verH_is {b : List Int} : (verH b).1 = (RS.new b).hbegin.2 ∧ (verH b).2 = ((RS.new b).hbegin.1.code, (RS.new b).hbegin.1.fat) := by
  have hcl := ((Cl.new b).hbegin)
  unfold verH
  by_cases hc : (RS.new b).hbegin.1.code = 0
  · rw [if_pos hc, hcl hc, hc]; exact ⟨rfl, rfl⟩
  · rw [if_neg hc]; exact ⟨(vers_bad hc).symm, rfl⟩
theorem skip_new {b : List Int} {n : Int} (n0 : 0 ≤ n) (n1 : n ≤ b.length) : (RS.new b).skip n = (⟨b, n, 0, 0⟩, true) := by
  unfold RS.skip RS.left RS.new
  simp only [if_true]
  rw [if_neg (by omega), if_neg (by omega)]
  simp
set_option maxHeartbeats 1000000 in
set_option maxRecDepth 100000 in
theorem law_HeaderReads (b : List Int) (a : Int) (hb : Bys b) : Does Try.prog 13 [slA .u8 b, iA a] [] (bA true) [] := by
  refine Does.run Try.func13 b13 n13 Try.ntmps13 (by simp only [List.cons_append, List.nil_append, List.length_cons, List.length_nil, Nat.zero_add, Nat.reduceAdd, Nat.reduceSub, List.replicate]; rfl) ?_; simp only [c13, go_sem, Nat.reduceAdd, Nat.reduceMul, Int.reduceToNat, Nat.reduceLeDiff, Int.reduceLE, Int.reduceLT, ↓reduceIte, Int.reduceBEq, Int.reduceBNe, Int.reduceAdd, Int.reduceSub, Int.reduceMul, qFin_ret, qFin_normal, ints_length]; (try ((refine okTr_and ?_ ?_); (· rfl)))
  by_cases hl : 300 < (b.length : Int)
  · have q1 : decide (300 < (b.length : Int)) = true := decide_eq_true hl
    (simp only [go_sem, Nat.reduceAdd, Nat.reduceMul, Int.reduceToNat, Nat.reduceLeDiff, Int.reduceLE, Int.reduceLT, ↓reduceIte, Int.reduceBEq, Int.reduceBNe, Int.reduceAdd, Int.reduceSub, Int.reduceMul, qFin_ret, qFin_normal, q1]; (try ((refine okTr_and ?_ ?_); (· rfl))))
    refine CallK.p (live31) ?_; (simp only [go_sem, Nat.reduceAdd, Nat.reduceMul, Int.reduceToNat, Nat.reduceLeDiff, Int.reduceLE, Int.reduceLT, ↓reduceIte, Int.reduceBEq, Int.reduceBNe, Int.reduceAdd, Int.reduceSub, Int.reduceMul, qFin_ret, qFin_normal]; (try ((refine okTr_and ?_ ?_); (· rfl))))
    ((refine FinK.fin r13 [] ?_ ?_ ?_ ?_ ?_ ?_); (· decide); (· rfl); (· simp); (· rfl); (· first | with_reducible rfl | (simp [ints_nil, ren_lit, ren_ref, ren_any, ren_agg, ren_tup, ren_sl, ren_fn, tren_none, tren_full, tren_row, oren_cells, oren_row, oren_dead, ixs_z, ixs_1, ixs_2, ixs_3, ren_ints, List.map_cons, List.map_nil]; done) | rfl); (· simp [resAL, resA1, loadA, oneOr, ints_nil, ren_lit, ren_ref, ren_any, ren_agg, ren_tup, ren_sl, ren_fn, tren_none, tren_full, tren_row, oren_cells, oren_row, oren_dead, ixs_z, ixs_1, ixs_2, ixs_3, ren_ints, List.map_cons, List.map_nil]))
  · have q1 : decide (300 < (b.length : Int)) = false := decide_eq_false hl
    have hok : ROk (RS.new b) := ROk.new hb (by omega)
    have gA := (getH_is hb (by omega)).1
    have gB := (getH_is hb (by omega)).2
    have vA := (verH_is (b := b)).1
    have vB := (verH_is (b := b)).2
    have hn0 : (RS.new b).header.1.code = 0 → (getH b).2.1 = (RS.new b).header.1.at_ := fun h => by unfold getH; rw [if_pos h]
    have hn1 : ¬ (RS.new b).header.1.code = 0 → (getH b).2.1 = 0 := fun h => by unfold getH; rw [if_neg h]
    have his := fun hc => header_is hok hc
    have hbl : (RS.new b).l = b := rfl
    have kk := header_keep hok
    have hat1 := kk.1.at1
    have hat0 := kk.1.at0
    rw [kk.2, hbl] at hat1
    obtain ⟨F, hF⟩ : ∃ F, (RS.new b).header = F := ⟨_, rfl⟩
    obtain ⟨G, hG⟩ : ∃ G, (RS.new b).hbegin = G := ⟨_, rfl⟩
    obtain ⟨n, hn⟩ : ∃ n, (getH b).2.1 = n := ⟨_, rfl⟩
    have hcv : cv (RS.new b) = .agg [slA .u8 b, iA 0, iA 0, iA 0] := rfl
    rw [hF] at gA gB hn0 hn1 his hat1 hat0
    rw [hG] at vA vB
    rw [hn] at hn0 hn1
    obtain ⟨k, hk⟩ : ∃ k, min (max a 0) (b.length : Int) = k := ⟨_, rfl⟩
    have hk2 : min (if 0 > a then 0 else a) (b.length : Int) = k := by rw [← hk]; congr 1; split <;> omega
    have k0 : 0 ≤ k := by omega
    have k1 : k ≤ b.length := by omega
    have hok2 : ROk ⟨b, k, 0, 0⟩ := ⟨k0, k1, by show b.length ≤ _; omega, hb⟩
    have hcv2 : cv ⟨b, k, 0, 0⟩ = .agg [slA .u8 b, iA k, iA 0, iA 0] := rfl
    have hsk := skip_new k0 k1
    (simp only [go_sem, Nat.reduceAdd, Nat.reduceMul, Int.reduceToNat, Nat.reduceLeDiff, Int.reduceLE, Int.reduceLT, ↓reduceIte, Int.reduceBEq, Int.reduceBNe, Int.reduceAdd, Int.reduceSub, Int.reduceMul, qFin_ret, qFin_normal, q1]; (try ((refine okTr_and ?_ ?_); (· rfl))))
    refine CallK.p (header_Get b hb (by omega)) ?_; (simp only [go_sem, Nat.reduceAdd, Nat.reduceMul, Int.reduceToNat, Nat.reduceLeDiff, Int.reduceLE, Int.reduceLT, ↓reduceIte, Int.reduceBEq, Int.reduceBNe, Int.reduceAdd, Int.reduceSub, Int.reduceMul, qFin_ret, qFin_normal, gA, gB, hn]; (try ((refine okTr_and ?_ ?_); (· rfl))))
    refine CallK.p (ref31_Read (RS.new b) hok) ?_; (simp only [go_sem, Nat.reduceAdd, Nat.reduceMul, Int.reduceToNat, Nat.reduceLeDiff, Int.reduceLE, Int.reduceLT, ↓reduceIte, Int.reduceBEq, Int.reduceBNe, Int.reduceAdd, Int.reduceSub, Int.reduceMul, qFin_ret, qFin_normal, hF]; (try ((refine okTr_and ?_ ?_); (· rfl))))
    refine CallK.p (law31_as F.2) ?_; (simp only [go_sem, Nat.reduceAdd, Nat.reduceMul, Int.reduceToNat, Nat.reduceLeDiff, Int.reduceLE, Int.reduceLT, ↓reduceIte, Int.reduceBEq, Int.reduceBNe, Int.reduceAdd, Int.reduceSub, Int.reduceMul, qFin_ret, qFin_normal, beq_self_eq_true, Bool.true_and, Bool.not_true]; (try ((refine okTr_and ?_ ?_); (· rfl))))
    have rest : True := trivial
    by_cases hc : F.1.code = 0
    · have z : (F.1.code == 0) = true := by simpa using hc
      have z' : (F.1.code != 0) = false := by simpa using hc
      have nn := hn0 hc
      have h2 := (his hc).2.1
      have h3 := (his hc).2.2.1
      have i5 := (his hc).2.2.2.2
      have e0 : (RS.new b).l.take (RS.new b).at_.toNat = [] := by simp [RS.new]
      rw [e0, List.nil_append, hbl] at i5
      have hB := headerB_bys h2 h3
      have htb : Bys (b.take F.1.at_.toNat) := fun x hx => hb x (List.mem_of_mem_take hx)
      have hbn : (n != F.1.at_) = false := by rw [nn]; simp
      (simp only [go_sem, Nat.reduceAdd, Nat.reduceMul, Int.reduceToNat, Nat.reduceLeDiff, Int.reduceLE, Int.reduceLT, ↓reduceIte, Int.reduceBEq, Int.reduceBNe, Int.reduceAdd, Int.reduceSub, Int.reduceMul, qFin_ret, qFin_normal, z, hbn]; (try ((refine okTr_and ?_ ?_); (· rfl))))
      refine CallK.n (ref31_Bytes F.2 h2 h3) ?_; (simp only [go_sem, Nat.reduceAdd, Nat.reduceMul, Int.reduceToNat, Nat.reduceLeDiff, Int.reduceLE, Int.reduceLT, ↓reduceIte, Int.reduceBEq, Int.reduceBNe, Int.reduceAdd, Int.reduceSub, Int.reduceMul, qFin_ret, qFin_normal, nn, ints_length, Int.sub_zero, ints_take]; (try ((refine okTr_and ?_ ?_); (· rfl))))
      (repeat ((with_reducible refine And.intro ?_ ?_); (· first | with_reducible assumption | omega | with_reducible rfl | (simp only [List.length_append, List.length_cons, List.length_nil, List.length_singleton]; omega) | (simp [ints_length, okEl_eq, AV.parts]; done) | (simp [ints_length, okEl_eq, AV.parts]; omega) | rfl)))
      refine CallK.p (ref02_Same (headerB F.2) (b.take F.1.at_.toNat) hB htb) ?_; (simp only [go_sem, Nat.reduceAdd, Nat.reduceMul, Int.reduceToNat, Nat.reduceLeDiff, Int.reduceLE, Int.reduceLT, ↓reduceIte, Int.reduceBEq, Int.reduceBNe, Int.reduceAdd, Int.reduceSub, Int.reduceMul, qFin_ret, qFin_normal, hsame_yes i5.symm, z']; (try ((refine okTr_and ?_ ?_); (· rfl))))
      refine CallK.p (header_Version b hb (by omega)) ?_; (simp only [go_sem, Nat.reduceAdd, Nat.reduceMul, Int.reduceToNat, Nat.reduceLeDiff, Int.reduceLE, Int.reduceLT, ↓reduceIte, Int.reduceBEq, Int.reduceBNe, Int.reduceAdd, Int.reduceSub, Int.reduceMul, qFin_ret, qFin_normal, vA, vB]; (try ((refine okTr_and ?_ ?_); (· rfl))))
      refine CallK.p (ref31_Begin (RS.new b) hok) ?_; (simp only [go_sem, Nat.reduceAdd, Nat.reduceMul, Int.reduceToNat, Nat.reduceLeDiff, Int.reduceLE, Int.reduceLT, ↓reduceIte, Int.reduceBEq, Int.reduceBNe, Int.reduceAdd, Int.reduceSub, Int.reduceMul, qFin_ret, qFin_normal, hG, beq_self_eq_true, bne_self_eq_false, Bool.true_and, Bool.not_true]; (try ((refine okTr_and ?_ ?_); (· rfl))))
      (simp only [go_sem, Nat.reduceAdd, Nat.reduceMul, Int.reduceToNat, Nat.reduceLeDiff, Int.reduceLE, Int.reduceLT, ↓reduceIte, Int.reduceBEq, Int.reduceBNe, Int.reduceAdd, Int.reduceSub, Int.reduceMul, qFin_ret, qFin_normal, mn, ints_length, hk2]; (try ((refine okTr_and ?_ ?_); (· rfl))))
      refine CallK.n (cursor_New b) ?_; (simp only [go_sem, Nat.reduceAdd, Nat.reduceMul, Int.reduceToNat, Nat.reduceLeDiff, Int.reduceLE, Int.reduceLT, ↓reduceIte, Int.reduceBEq, Int.reduceBNe, Int.reduceAdd, Int.reduceSub, Int.reduceMul, qFin_ret, qFin_normal]; (try ((refine okTr_and ?_ ?_); (· rfl))))
      refine CallK.u1 (Reader_Skip (RS.new b) k _ hok.ok) rfl ?_; (simp only [go_sem, Nat.reduceAdd, Nat.reduceMul, Int.reduceToNat, Nat.reduceLeDiff, Int.reduceLE, Int.reduceLT, ↓reduceIte, Int.reduceBEq, Int.reduceBNe, Int.reduceAdd, Int.reduceSub, Int.reduceMul, qFin_ret, qFin_normal, hsk]; (try ((refine okTr_and ?_ ?_); (· rfl))))
      refine CallK.u1 (header_Read ⟨b, k, 0, 0⟩ _ hok2) rfl ?_; (simp only [go_sem, Nat.reduceAdd, Nat.reduceMul, Int.reduceToNat, Nat.reduceLeDiff, Int.reduceLE, Int.reduceLT, ↓reduceIte, Int.reduceBEq, Int.reduceBNe, Int.reduceAdd, Int.reduceSub, Int.reduceMul, qFin_ret, qFin_normal]; (try ((refine okTr_and ?_ ?_); (· rfl))))
      refine CallK.p (ref31_Read ⟨b, k, 0, 0⟩ hok2) ?_; (simp only [go_sem, Nat.reduceAdd, Nat.reduceMul, Int.reduceToNat, Nat.reduceLeDiff, Int.reduceLE, Int.reduceLT, ↓reduceIte, Int.reduceBEq, Int.reduceBNe, Int.reduceAdd, Int.reduceSub, Int.reduceMul, qFin_ret, qFin_normal]; (try ((refine okTr_and ?_ ?_); (· rfl))))
      refine CallK.p (law31_as _) ?_; (simp only [go_sem, Nat.reduceAdd, Nat.reduceMul, Int.reduceToNat, Nat.reduceLeDiff, Int.reduceLE, Int.reduceLT, ↓reduceIte, Int.reduceBEq, Int.reduceBNe, Int.reduceAdd, Int.reduceSub, Int.reduceMul, qFin_ret, qFin_normal, beq_self_eq_true, Bool.true_and]; (try ((refine okTr_and ?_ ?_); (· rfl))))
      refine CallK.r1 (Reader_Fault _ _) rfl ?_; (simp only [go_sem, Nat.reduceAdd, Nat.reduceMul, Int.reduceToNat, Nat.reduceLeDiff, Int.reduceLE, Int.reduceLT, ↓reduceIte, Int.reduceBEq, Int.reduceBNe, Int.reduceAdd, Int.reduceSub, Int.reduceMul, qFin_ret, qFin_normal, beq_self_eq_true, Bool.true_and]; (try ((refine okTr_and ?_ ?_); (· rfl))))
      refine CallK.p (live31) ?_; (simp only [go_sem, Nat.reduceAdd, Nat.reduceMul, Int.reduceToNat, Nat.reduceLeDiff, Int.reduceLE, Int.reduceLT, ↓reduceIte, Int.reduceBEq, Int.reduceBNe, Int.reduceAdd, Int.reduceSub, Int.reduceMul, qFin_ret, qFin_normal]; (try ((refine okTr_and ?_ ?_); (· rfl))))
      ((refine FinK.fin r13 [] ?_ ?_ ?_ ?_ ?_ ?_); (· decide); (· rfl); (· simp); (· rfl); (· first | with_reducible rfl | (simp [ints_nil, ren_lit, ren_ref, ren_any, ren_agg, ren_tup, ren_sl, ren_fn, tren_none, tren_full, tren_row, oren_cells, oren_row, oren_dead, ixs_z, ixs_1, ixs_2, ixs_3, ren_ints, List.map_cons, List.map_nil]; done) | rfl); (· simp [resAL, resA1, loadA, oneOr, ints_nil, ren_lit, ren_ref, ren_any, ren_agg, ren_tup, ren_sl, ren_fn, tren_none, tren_full, tren_row, oren_cells, oren_row, oren_dead, ixs_z, ixs_1, ixs_2, ixs_3, ren_ints, List.map_cons, List.map_nil]))
    · have z : (F.1.code == 0) = false := by simpa using hc
      have z' : (F.1.code != 0) = true := by simpa using hc
      have nn := hn1 hc
      have hbn : (n != 0) = false := by rw [nn]; rfl
      (simp only [go_sem, Nat.reduceAdd, Nat.reduceMul, Int.reduceToNat, Nat.reduceLeDiff, Int.reduceLE, Int.reduceLT, ↓reduceIte, Int.reduceBEq, Int.reduceBNe, Int.reduceAdd, Int.reduceSub, Int.reduceMul, qFin_ret, qFin_normal, z, z', hbn]; (try ((refine okTr_and ?_ ?_); (· rfl))))
      refine CallK.p (header_Version b hb (by omega)) ?_; (simp only [go_sem, Nat.reduceAdd, Nat.reduceMul, Int.reduceToNat, Nat.reduceLeDiff, Int.reduceLE, Int.reduceLT, ↓reduceIte, Int.reduceBEq, Int.reduceBNe, Int.reduceAdd, Int.reduceSub, Int.reduceMul, qFin_ret, qFin_normal, vA, vB]; (try ((refine okTr_and ?_ ?_); (· rfl))))
      refine CallK.p (ref31_Begin (RS.new b) hok) ?_; (simp only [go_sem, Nat.reduceAdd, Nat.reduceMul, Int.reduceToNat, Nat.reduceLeDiff, Int.reduceLE, Int.reduceLT, ↓reduceIte, Int.reduceBEq, Int.reduceBNe, Int.reduceAdd, Int.reduceSub, Int.reduceMul, qFin_ret, qFin_normal, hG, beq_self_eq_true, bne_self_eq_false, Bool.true_and, Bool.not_true]; (try ((refine okTr_and ?_ ?_); (· rfl))))
      (simp only [go_sem, Nat.reduceAdd, Nat.reduceMul, Int.reduceToNat, Nat.reduceLeDiff, Int.reduceLE, Int.reduceLT, ↓reduceIte, Int.reduceBEq, Int.reduceBNe, Int.reduceAdd, Int.reduceSub, Int.reduceMul, qFin_ret, qFin_normal, mn, ints_length, hk2]; (try ((refine okTr_and ?_ ?_); (· rfl))))
      refine CallK.n (cursor_New b) ?_; (simp only [go_sem, Nat.reduceAdd, Nat.reduceMul, Int.reduceToNat, Nat.reduceLeDiff, Int.reduceLE, Int.reduceLT, ↓reduceIte, Int.reduceBEq, Int.reduceBNe, Int.reduceAdd, Int.reduceSub, Int.reduceMul, qFin_ret, qFin_normal]; (try ((refine okTr_and ?_ ?_); (· rfl))))
      refine CallK.u1 (Reader_Skip (RS.new b) k _ hok.ok) rfl ?_; (simp only [go_sem, Nat.reduceAdd, Nat.reduceMul, Int.reduceToNat, Nat.reduceLeDiff, Int.reduceLE, Int.reduceLT, ↓reduceIte, Int.reduceBEq, Int.reduceBNe, Int.reduceAdd, Int.reduceSub, Int.reduceMul, qFin_ret, qFin_normal, hsk]; (try ((refine okTr_and ?_ ?_); (· rfl))))
      refine CallK.u1 (header_Read ⟨b, k, 0, 0⟩ _ hok2) rfl ?_; (simp only [go_sem, Nat.reduceAdd, Nat.reduceMul, Int.reduceToNat, Nat.reduceLeDiff, Int.reduceLE, Int.reduceLT, ↓reduceIte, Int.reduceBEq, Int.reduceBNe, Int.reduceAdd, Int.reduceSub, Int.reduceMul, qFin_ret, qFin_normal]; (try ((refine okTr_and ?_ ?_); (· rfl))))
      refine CallK.p (ref31_Read ⟨b, k, 0, 0⟩ hok2) ?_; (simp only [go_sem, Nat.reduceAdd, Nat.reduceMul, Int.reduceToNat, Nat.reduceLeDiff, Int.reduceLE, Int.reduceLT, ↓reduceIte, Int.reduceBEq, Int.reduceBNe, Int.reduceAdd, Int.reduceSub, Int.reduceMul, qFin_ret, qFin_normal]; (try ((refine okTr_and ?_ ?_); (· rfl))))
      refine CallK.p (law31_as _) ?_; (simp only [go_sem, Nat.reduceAdd, Nat.reduceMul, Int.reduceToNat, Nat.reduceLeDiff, Int.reduceLE, Int.reduceLT, ↓reduceIte, Int.reduceBEq, Int.reduceBNe, Int.reduceAdd, Int.reduceSub, Int.reduceMul, qFin_ret, qFin_normal, beq_self_eq_true, Bool.true_and]; (try ((refine okTr_and ?_ ?_); (· rfl))))
      refine CallK.r1 (Reader_Fault _ _) rfl ?_; (simp only [go_sem, Nat.reduceAdd, Nat.reduceMul, Int.reduceToNat, Nat.reduceLeDiff, Int.reduceLE, Int.reduceLT, ↓reduceIte, Int.reduceBEq, Int.reduceBNe, Int.reduceAdd, Int.reduceSub, Int.reduceMul, qFin_ret, qFin_normal, beq_self_eq_true, Bool.true_and]; (try ((refine okTr_and ?_ ?_); (· rfl))))
      refine CallK.p (live31) ?_; (simp only [go_sem, Nat.reduceAdd, Nat.reduceMul, Int.reduceToNat, Nat.reduceLeDiff, Int.reduceLE, Int.reduceLT, ↓reduceIte, Int.reduceBEq, Int.reduceBNe, Int.reduceAdd, Int.reduceSub, Int.reduceMul, qFin_ret, qFin_normal]; (try ((refine okTr_and ?_ ?_); (· rfl))))
      ((refine FinK.fin r13 [] ?_ ?_ ?_ ?_ ?_ ?_); (· decide); (· rfl); (· simp); (· rfl); (· first | with_reducible rfl | (simp [ints_nil, ren_lit, ren_ref, ren_any, ren_agg, ren_tup, ren_sl, ren_fn, tren_none, tren_full, tren_row, oren_cells, oren_row, oren_dead, ixs_z, ixs_1, ixs_2, ixs_3, ren_ints, List.map_cons, List.map_nil]; done) | rfl); (· simp [resAL, resA1, loadA, oneOr, ints_nil, ren_lit, ren_ref, ren_any, ren_agg, ren_tup, ren_sl, ren_fn, tren_none, tren_full, tren_row, oren_cells, oren_row, oren_dead, ixs_z, ixs_1, ixs_2, ixs_3, ren_ints, List.map_cons, List.map_nil]))
theorem hplain_begin {s : RS} (h : ROk s) (hc : s.hplain.1.code = 0) : s.hbegin.1.code = 0 := by
  obtain ⟨ka, _⟩ := hbegin_keep h
  obtain ⟨kb, _⟩ := epo_keep ka epRight
  obtain ⟨d1, _⟩ := hbase_is kb hc
  exact (epo_is ka d1).1
theorem getH_own {h : Hd} {r : List Int} (hr : rightH h = true) (hb : 0 ≤ h.base) (hB : Bys (headerB h ++ r)) (hn : (headerB h ++ r).length ≤ 140737488355328) : getH (headerB h ++ r) = (h, ((headerB h).length : Int), (0, 0)) := by
  have e := header_own (ROk.new hB hn) rfl hr hb (new_rest _)
  unfold getH
  rw [e]
  simp only
  rw [if_pos (show ((RS.new (headerB h ++ r)).adv ((headerB h).length : Int)).code = 0 from rfl)]
  show (h, (0 : Int) + _, _) = _
  rw [Int.zero_add]
theorem verH_own {h : Hd} {r : List Int} (hr : rightH h = true) (hb : 0 ≤ h.base) (hB : Bys (plainB h ++ r)) (hn : (plainB h ++ r).length ≤ 140737488355328) : verH (plainB h ++ r) = (h.ver, (0, 0)) := by
  have hok := ROk.new hB hn
  have e := hplain_own hok rfl hr hb (new_rest _)
  have c := hplain_begin hok (by rw [e]; rfl)
  have v : (RS.new (plainB h ++ r)).hbegin.2 = h.ver := by
    have : (RS.new (plainB h ++ r)).hplain.2.ver = (RS.new (plainB h ++ r)).hbegin.2 := rfl
    rw [← this, e]
  unfold verH
  rw [if_pos c, v]
theorem bytesH_bys {h : Hd} (hb : 0 ≤ h.base) : Bys (bytesH h) := by
  unfold bytesH; split
  · rename_i hr; exact headerB_bys hr hb
  · intro x hx; simp at hx
set_option maxHeartbeats 1000000 in
set_option maxRecDepth 100000 in
theorem law_HeaderWrites (h : Hd) (r : List Int) (hb : 0 ≤ h.base) (hr : Bys r) : Does Try.prog 12 [hdA h, slA .u8 r] [] (bA true) [] := by
  refine Does.run Try.func12 b12 n12 Try.ntmps12 (by simp only [List.cons_append, List.nil_append, List.length_cons, List.length_nil, Nat.zero_add, Nat.reduceAdd, Nat.reduceSub, List.replicate]; rfl) ?_; simp only [c12, go_sem, Nat.reduceAdd, Nat.reduceMul, Int.reduceToNat, Nat.reduceLeDiff, Int.reduceLE, Int.reduceLT, ↓reduceIte, Int.reduceBEq, Int.reduceBNe, Int.reduceAdd, Int.reduceSub, Int.reduceMul, qFin_ret, qFin_normal, ints_length]; (try ((refine okTr_and ?_ ?_); (· rfl)))
  by_cases hl : 300 < (r.length : Int)
  · have q1 : decide (300 < (r.length : Int)) = true := decide_eq_true hl
    (simp only [go_sem, Nat.reduceAdd, Nat.reduceMul, Int.reduceToNat, Nat.reduceLeDiff, Int.reduceLE, Int.reduceLT, ↓reduceIte, Int.reduceBEq, Int.reduceBNe, Int.reduceAdd, Int.reduceSub, Int.reduceMul, qFin_ret, qFin_normal, q1]; (try ((refine okTr_and ?_ ?_); (· rfl))))
    refine CallK.p (live31) ?_; (simp only [go_sem, Nat.reduceAdd, Nat.reduceMul, Int.reduceToNat, Nat.reduceLeDiff, Int.reduceLE, Int.reduceLT, ↓reduceIte, Int.reduceBEq, Int.reduceBNe, Int.reduceAdd, Int.reduceSub, Int.reduceMul, qFin_ret, qFin_normal]; (try ((refine okTr_and ?_ ?_); (· rfl))))
    ((refine FinK.fin r12 [] ?_ ?_ ?_ ?_ ?_ ?_); (· decide); (· rfl); (· simp); (· rfl); (· first | with_reducible rfl | (simp [ints_nil, ren_lit, ren_ref, ren_any, ren_agg, ren_tup, ren_sl, ren_fn, tren_none, tren_full, tren_row, oren_cells, oren_row, oren_dead, ixs_z, ixs_1, ixs_2, ixs_3, ren_ints, List.map_cons, List.map_nil]; done) | rfl); (· simp [resAL, resA1, loadA, oneOr, ints_nil, ren_lit, ren_ref, ren_any, ren_agg, ren_tup, ren_sl, ren_fn, tren_none, tren_full, tren_row, oren_cells, oren_row, oren_dead, ixs_z, ixs_1, ixs_2, ixs_3, ren_ints, List.map_cons, List.map_nil]))
  · have q1 : decide (300 < (r.length : Int)) = false := decide_eq_false hl
    have f0 : (WS.new 40).fine := WS.fine.new (by omega)
    have hff := (f0.header h).len
    have w1 := (new_header h (n := 40) (by omega)).2
    have w2 : ((WS.new 40).header h).code = errH h := by rw [(new_header h (n := 40) (by omega)).1]
    have hbb := bytesH_bys hb
    (simp only [go_sem, Nat.reduceAdd, Nat.reduceMul, Int.reduceToNat, Nat.reduceLeDiff, Int.reduceLE, Int.reduceLT, ↓reduceIte, Int.reduceBEq, Int.reduceBNe, Int.reduceAdd, Int.reduceSub, Int.reduceMul, qFin_ret, qFin_normal, q1]; (try ((refine okTr_and ?_ ?_); (· rfl))))
    refine CallK.p (header_Bytes h hb) ?_; (simp only [go_sem, Nat.reduceAdd, Nat.reduceMul, Int.reduceToNat, Nat.reduceLeDiff, Int.reduceLE, Int.reduceLT, ↓reduceIte, Int.reduceBEq, Int.reduceBNe, Int.reduceAdd, Int.reduceSub, Int.reduceMul, qFin_ret, qFin_normal]; (try ((refine okTr_and ?_ ?_); (· rfl))))
    refine CallK.n (pen_New 40) ?_; (simp only [go_sem, Nat.reduceAdd, Nat.reduceMul, Int.reduceToNat, Nat.reduceLeDiff, Int.reduceLE, Int.reduceLT, ↓reduceIte, Int.reduceBEq, Int.reduceBNe, Int.reduceAdd, Int.reduceSub, Int.reduceMul, qFin_ret, qFin_normal]; (try ((refine okTr_and ?_ ?_); (· rfl))))
    refine CallK.u2 (header_Put (WS.new 40) h _ _ (by decide) f0 hb) rfl rfl ?_; (simp only [go_sem, Nat.reduceAdd, Nat.reduceMul, Int.reduceToNat, Nat.reduceLeDiff, Int.reduceLE, Int.reduceLT, ↓reduceIte, Int.reduceBEq, Int.reduceBNe, Int.reduceAdd, Int.reduceSub, Int.reduceMul, qFin_ret, qFin_normal]; (try ((refine okTr_and ?_ ?_); (· rfl))))
    refine CallK.r2 (Writer_Bytes ((WS.new 40).header h) _ _ (by decide) hff) rfl rfl ?_; (simp only [go_sem, Nat.reduceAdd, Nat.reduceMul, Int.reduceToNat, Nat.reduceLeDiff, Int.reduceLE, Int.reduceLT, ↓reduceIte, Int.reduceBEq, Int.reduceBNe, Int.reduceAdd, Int.reduceSub, Int.reduceMul, qFin_ret, qFin_normal, w1, w2, bne_self_eq_false]; (try ((refine okTr_and ?_ ?_); (· rfl))))
    refine CallK.p (ref02_Same (bytesH h) (bytesH h) hbb hbb) ?_; (simp only [go_sem, Nat.reduceAdd, Nat.reduceMul, Int.reduceToNat, Nat.reduceLeDiff, Int.reduceLE, Int.reduceLT, ↓reduceIte, Int.reduceBEq, Int.reduceBNe, Int.reduceAdd, Int.reduceSub, Int.reduceMul, qFin_ret, qFin_normal, same_self, Bool.not_true]; (try ((refine okTr_and ?_ ?_); (· rfl))))
    refine CallK.p (header_Right h) ?_; (simp only [go_sem, Nat.reduceAdd, Nat.reduceMul, Int.reduceToNat, Nat.reduceLeDiff, Int.reduceLE, Int.reduceLT, ↓reduceIte, Int.reduceBEq, Int.reduceBNe, Int.reduceAdd, Int.reduceSub, Int.reduceMul, qFin_ret, qFin_normal]; (try ((refine okTr_and ?_ ?_); (· rfl))))
    refine CallK.p (law31_as h) ?_; (simp only [go_sem, Nat.reduceAdd, Nat.reduceMul, Int.reduceToNat, Nat.reduceLeDiff, Int.reduceLE, Int.reduceLT, ↓reduceIte, Int.reduceBEq, Int.reduceBNe, Int.reduceAdd, Int.reduceSub, Int.reduceMul, qFin_ret, qFin_normal]; (try ((refine okTr_and ?_ ?_); (· rfl))))
    refine CallK.p (ref31_Right h) ?_; (simp only [go_sem, Nat.reduceAdd, Nat.reduceMul, Int.reduceToNat, Nat.reduceLeDiff, Int.reduceLE, Int.reduceLT, ↓reduceIte, Int.reduceBEq, Int.reduceBNe, Int.reduceAdd, Int.reduceSub, Int.reduceMul, qFin_ret, qFin_normal, beq_self_eq_true, bne_self_eq_false, Bool.not_true]; (try ((refine okTr_and ?_ ?_); (· rfl))))
    refine CallK.p (law31_as h) ?_; (simp only [go_sem, Nat.reduceAdd, Nat.reduceMul, Int.reduceToNat, Nat.reduceLeDiff, Int.reduceLE, Int.reduceLT, ↓reduceIte, Int.reduceBEq, Int.reduceBNe, Int.reduceAdd, Int.reduceSub, Int.reduceMul, qFin_ret, qFin_normal]; (try ((refine okTr_and ?_ ?_); (· rfl))))
    refine CallK.p (ref31_Right h) ?_
    by_cases hrt : rightH h = true
    · have e1 : bytesH h = headerB h := by unfold bytesH; rw [if_pos hrt]
      have e2 : errH h = 0 := by unfold errH; rw [if_pos hrt]
      have hB := headerB_bys hrt hb
      have hlen := headerB_27 hrt
      have hall : Bys (headerB h ++ r) := hbys_app hB hr
      have hlr : (headerB h ++ r).length ≤ 140737488355328 := by rw [List.length_append]; omega
      have g := getH_own (r := r) hrt hb hall hlr
      have v := verH_own (r := lowBytes 4 (crcI (plainB h))) hrt hb (by exact hB) (by have : (plainB h ++ lowBytes 4 (crcI (plainB h))).length = (headerB h).length := rfl
                                                                                      omega)
      have v' : verH (headerB h) = (h.ver, (0, 0)) := v
      have q27 : decide (((headerB h).length : Int) ≤ 27) = true := decide_eq_true (by omega)
      (simp only [go_sem, Nat.reduceAdd, Nat.reduceMul, Int.reduceToNat, Nat.reduceLeDiff, Int.reduceLE, Int.reduceLT, ↓reduceIte, Int.reduceBEq, Int.reduceBNe, Int.reduceAdd, Int.reduceSub, Int.reduceMul, qFin_ret, qFin_normal, hrt, e1, e2, ints_length, ints_append]; (try ((refine okTr_and ?_ ?_); (· rfl))))
      (repeat ((with_reducible refine And.intro ?_ ?_); (· first | with_reducible assumption | omega | with_reducible rfl | (simp only [List.length_append, List.length_cons, List.length_nil, List.length_singleton]; omega) | (simp [ints_length, okEl_eq, AV.parts]; done) | (simp [ints_length, okEl_eq, AV.parts]; omega) | rfl)))
      refine CallK.p (header_Get (headerB h ++ r) hall hlr) ?_; (simp only [go_sem, Nat.reduceAdd, Nat.reduceMul, Int.reduceToNat, Nat.reduceLeDiff, Int.reduceLE, Int.reduceLT, ↓reduceIte, Int.reduceBEq, Int.reduceBNe, Int.reduceAdd, Int.reduceSub, Int.reduceMul, qFin_ret, qFin_normal, g]; (try ((refine okTr_and ?_ ?_); (· rfl))))
      refine CallK.p (header_Version (headerB h) hB (by omega)) ?_; (simp only [go_sem, Nat.reduceAdd, Nat.reduceMul, Int.reduceToNat, Nat.reduceLeDiff, Int.reduceLE, Int.reduceLT, ↓reduceIte, Int.reduceBEq, Int.reduceBNe, Int.reduceAdd, Int.reduceSub, Int.reduceMul, qFin_ret, qFin_normal, v']; (try ((refine okTr_and ?_ ?_); (· rfl))))
      refine CallK.p (law31_as h) ?_; (simp only [go_sem, Nat.reduceAdd, Nat.reduceMul, Int.reduceToNat, Nat.reduceLeDiff, Int.reduceLE, Int.reduceLT, ↓reduceIte, Int.reduceBEq, Int.reduceBNe, Int.reduceAdd, Int.reduceSub, Int.reduceMul, qFin_ret, qFin_normal]; (try ((refine okTr_and ?_ ?_); (· rfl))))
      refine CallK.n (ref31_Bytes h hrt hb) ?_; (simp only [go_sem, Nat.reduceAdd, Nat.reduceMul, Int.reduceToNat, Nat.reduceLeDiff, Int.reduceLE, Int.reduceLT, ↓reduceIte, Int.reduceBEq, Int.reduceBNe, Int.reduceAdd, Int.reduceSub, Int.reduceMul, qFin_ret, qFin_normal]; (try ((refine okTr_and ?_ ?_); (· rfl))))
      refine CallK.p (ref02_Same (headerB h) (headerB h) hB hB) ?_; (simp only [go_sem, Nat.reduceAdd, Nat.reduceMul, Int.reduceToNat, Nat.reduceLeDiff, Int.reduceLE, Int.reduceLT, ↓reduceIte, Int.reduceBEq, Int.reduceBNe, Int.reduceAdd, Int.reduceSub, Int.reduceMul, qFin_ret, qFin_normal, same_self, beq_self_eq_true, Bool.true_and, ints_length]; (try ((refine okTr_and ?_ ?_); (· rfl))))
      refine CallK.p (hMost) ?_; (simp only [go_sem, Nat.reduceAdd, Nat.reduceMul, Int.reduceToNat, Nat.reduceLeDiff, Int.reduceLE, Int.reduceLT, ↓reduceIte, Int.reduceBEq, Int.reduceBNe, Int.reduceAdd, Int.reduceSub, Int.reduceMul, qFin_ret, qFin_normal, q27]; (try ((refine okTr_and ?_ ?_); (· rfl))))
      refine CallK.p (live31) ?_; (simp only [go_sem, Nat.reduceAdd, Nat.reduceMul, Int.reduceToNat, Nat.reduceLeDiff, Int.reduceLE, Int.reduceLT, ↓reduceIte, Int.reduceBEq, Int.reduceBNe, Int.reduceAdd, Int.reduceSub, Int.reduceMul, qFin_ret, qFin_normal]; (try ((refine okTr_and ?_ ?_); (· rfl))))
      ((refine FinK.fin r12 [] ?_ ?_ ?_ ?_ ?_ ?_); (· decide); (· rfl); (· simp); (· rfl); (· first | with_reducible rfl | (simp [ints_nil, ren_lit, ren_ref, ren_any, ren_agg, ren_tup, ren_sl, ren_fn, tren_none, tren_full, tren_row, oren_cells, oren_row, oren_dead, ixs_z, ixs_1, ixs_2, ixs_3, ren_ints, List.map_cons, List.map_nil]; done) | rfl); (· simp [resAL, resA1, loadA, oneOr, ints_nil, ren_lit, ren_ref, ren_any, ren_agg, ren_tup, ren_sl, ren_fn, tren_none, tren_full, tren_row, oren_cells, oren_row, oren_dead, ixs_z, ixs_1, ixs_2, ixs_3, ren_ints, List.map_cons, List.map_nil]))
    · have hrt' : rightH h = false := by simpa using hrt
      have e1 : bytesH h = [] := by unfold bytesH; rw [if_neg hrt]
      have e2 : errH h = 3 := by unfold errH; rw [if_neg hrt]
      (simp only [go_sem, Nat.reduceAdd, Nat.reduceMul, Int.reduceToNat, Nat.reduceLeDiff, Int.reduceLE, Int.reduceLT, ↓reduceIte, Int.reduceBEq, Int.reduceBNe, Int.reduceAdd, Int.reduceSub, Int.reduceMul, qFin_ret, qFin_normal, hrt', e1, e2, ints_nil]; (try ((refine okTr_and ?_ ?_); (· rfl))))
      refine CallK.p (live31) ?_; (simp only [go_sem, Nat.reduceAdd, Nat.reduceMul, Int.reduceToNat, Nat.reduceLeDiff, Int.reduceLE, Int.reduceLT, ↓reduceIte, Int.reduceBEq, Int.reduceBNe, Int.reduceAdd, Int.reduceSub, Int.reduceMul, qFin_ret, qFin_normal]; (try ((refine okTr_and ?_ ?_); (· rfl))))
      ((refine FinK.fin r12 [] ?_ ?_ ?_ ?_ ?_ ?_); (· decide); (· rfl); (· simp); (· rfl); (· first | with_reducible rfl | (simp [ints_nil, ren_lit, ren_ref, ren_any, ren_agg, ren_tup, ren_sl, ren_fn, tren_none, tren_full, tren_row, oren_cells, oren_row, oren_dead, ixs_z, ixs_1, ixs_2, ixs_3, ren_ints, List.map_cons, List.map_nil]; done) | rfl); (· simp [resAL, resA1, loadA, oneOr, ints_nil, ren_lit, ren_ref, ren_any, ren_agg, ren_tup, ren_sl, ren_fn, tren_none, tren_full, tren_row, oren_cells, oren_row, oren_dead, ixs_z, ixs_1, ixs_2, ixs_3, ren_ints, List.map_cons, List.map_nil]))
end Go.Proofs.Ytkhnfleejgfhgaa
