/-
  Contracts of footer's payload's reading, and of the reference's.
-/
import Derived.Test.YtkhnfleejgfhgaaK47
set_option linter.all false
set_option linter.unusedSimpArgs false
set_option linter.unusedVariables false
set_option linter.unnecessarySimpa false
namespace Go.Proofs.Ytkhnfleejgfhgaa
open Go.RowKit

theorem fkind_eq (s : RS) : s.fkind = if (s.take 1).2.getD 0 0 = 3 then (s.take 1).1 else (s.take 1).1.fail 7 0 := by
  unfold RS.fkind
  by_cases h : (s.take 1).2.getD 0 0 = 3
  · rw [if_pos h, if_neg (by rintro ⟨_, h'⟩; exact h' h)]
  · rw [if_neg h]
    by_cases hc : (s.take 1).1.code = 0
    · rw [if_pos ⟨hc, h⟩]
    · rw [if_neg (by rintro ⟨h', _⟩; exact hc h'), fail_bad hc]
theorem Reader_End0 (s : RS) (hs : ROk s) : Does Try.prog 101 [.ref 0 0] [rdr s] (.tup []) [rdr (s.rest9)] := by
  refine Does.run Try.func101 b101 n101 Try.ntmps101 (by simp only [List.cons_append, List.nil_append, List.length_cons, List.length_nil, Nat.zero_add, Nat.reduceAdd, Nat.reduceSub, List.replicate]; rfl) ?_; simp only [c101, go_sem, Nat.reduceAdd, Nat.reduceMul, Int.reduceToNat, Nat.reduceLeDiff, Int.reduceLE, Int.reduceLT, ↓reduceIte, Int.reduceBEq, Int.reduceBNe, Int.reduceAdd, Int.reduceSub, Int.reduceMul, qFin_ret, qFin_normal]; (try ((refine okTr_and ?_ ?_); (· rfl)))
  refine CallK.r1 (Reader_Left s 0 hs.ok) rfl ?_
  by_cases h : 0 < s.left
  · have q : decide (0 < s.left) = true := decide_eq_true h
    have e : s.rest9 = s.fail 9 s.at_ := by unfold RS.rest9; rw [if_pos h]
    (simp only [go_sem, Nat.reduceAdd, Nat.reduceMul, Int.reduceToNat, Nat.reduceLeDiff, Int.reduceLE, Int.reduceLT, ↓reduceIte, Int.reduceBEq, Int.reduceBNe, Int.reduceAdd, Int.reduceSub, Int.reduceMul, qFin_ret, qFin_normal, q]; (try ((refine okTr_and ?_ ?_); (· rfl))))
    refine CallK.u1 (Reader_Fail s 9 s.at_ 0) rfl ?_; (simp only [go_sem, Nat.reduceAdd, Nat.reduceMul, Int.reduceToNat, Nat.reduceLeDiff, Int.reduceLE, Int.reduceLT, ↓reduceIte, Int.reduceBEq, Int.reduceBNe, Int.reduceAdd, Int.reduceSub, Int.reduceMul, qFin_ret, qFin_normal]; (try ((refine okTr_and ?_ ?_); (· rfl))))
    ((refine FinK.fin r101 [0] ?_ ?_ ?_ ?_ ?_ ?_); (· decide); (· rfl); (· simp); (· rfl); (· first | with_reducible rfl | (simp [ints_nil, ren_lit, ren_ref, ren_any, ren_agg, ren_tup, ren_sl, ren_fn, tren_none, tren_full, tren_row, oren_cells, oren_row, oren_dead, ixs_z, ixs_1, ixs_2, ixs_3, ren_ints, List.map_cons, List.map_nil, e, rdr_ren]; done) | rfl); (· simp [resAL, resA1, loadA, oneOr, ints_nil, ren_lit, ren_ref, ren_any, ren_agg, ren_tup, ren_sl, ren_fn, tren_none, tren_full, tren_row, oren_cells, oren_row, oren_dead, ixs_z, ixs_1, ixs_2, ixs_3, ren_ints, List.map_cons, List.map_nil, e, rdr_ren]))
  · have q : decide (0 < s.left) = false := decide_eq_false h
    have e : s.rest9 = s := by unfold RS.rest9; rw [if_neg h]
    (simp only [go_sem, Nat.reduceAdd, Nat.reduceMul, Int.reduceToNat, Nat.reduceLeDiff, Int.reduceLE, Int.reduceLT, ↓reduceIte, Int.reduceBEq, Int.reduceBNe, Int.reduceAdd, Int.reduceSub, Int.reduceMul, qFin_ret, qFin_normal, q]; (try ((refine okTr_and ?_ ?_); (· rfl))))
    ((refine FinK.fin r101 [0] ?_ ?_ ?_ ?_ ?_ ?_); (· decide); (· rfl); (· simp); (· rfl); (· first | with_reducible rfl | (simp [ints_nil, ren_lit, ren_ref, ren_any, ren_agg, ren_tup, ren_sl, ren_fn, tren_none, tren_full, tren_row, oren_cells, oren_row, oren_dead, ixs_z, ixs_1, ixs_2, ixs_3, ren_ints, List.map_cons, List.map_nil, e, rdr_ren]; done) | rfl); (· simp [resAL, resA1, loadA, oneOr, ints_nil, ren_lit, ren_ref, ren_any, ren_agg, ren_tup, ren_sl, ren_fn, tren_none, tren_full, tren_row, oren_cells, oren_row, oren_dead, ixs_z, ixs_1, ixs_2, ixs_3, ren_ints, List.map_cons, List.map_nil, e, rdr_ren]))
theorem Reader_End (s : RS) (i : Nat) (hs : ROk s) : Ct Try.prog 101 [.ref i 0] [(i, rdr s)] (fun _ => .tup []) [(i, rdr (s.rest9))] (fun _ => []) := Ct.u1 (Reader_End0 s hs) i (by intros; simp [ints_nil, ren_lit, ren_ref, ren_any, ren_agg, ren_tup, ren_sl, ren_fn, tren_none, tren_full, tren_row, oren_cells, oren_row, oren_dead, ixs_z, ixs_1, ixs_2, ixs_3, ren_ints, List.map_cons, List.map_nil, ixs, List.range'_succ, ren_ints]) (fun ρ => rdr_ren ρ _) (fun ρ => rdr_ren ρ _) (rdr_dead _) (by intros; simp [ints_nil, ren_lit, ren_ref, ren_any, ren_agg, ren_tup, ren_sl, ren_fn, tren_none, tren_full, tren_row, oren_cells, oren_row, oren_dead, ixs_z, ixs_1, ixs_2, ixs_3, ren_ints, List.map_cons, List.map_nil, ixs, List.range'_succ, ren_ints])
theorem ROk.rest9 {s : RS} (h : ROk s) : ROk s.rest9 := by
  unfold RS.rest9; split
  · exact h.fail _ _
  · exact h
set_option maxHeartbeats 4000000 in
set_option maxRecDepth 100000 in
theorem footer_ReadPayload0 (p : List Int) (hp : Bys p) (hn : p.length ≤ 140737488355328) : Does Try.prog 33 [slA .u8 p] [] (.tup [ftA (readFt p).1, fltA (readFt p).2]) [] := by
  have hok : ROk (RS.new p) := ROk.new hp hn
  obtain ⟨hk, hkl⟩ := fkind_keep hok
  have hkq := fkind_eq (RS.new p)
  have hbt := byte_take (RS.new p) hok.at0
  have hfoot : (RS.new p).foot = (((RS.new p).fkind.fnums.1.fcheck (RS.new p).fkind.fnums.2).rest9, (RS.new p).fkind.fnums.2) := rfl
  have hrd : readFt p = if (RS.new p).foot.1.code = 0 then ((RS.new p).foot.2, (0, 0)) else (ft0, ((RS.new p).foot.1.code, (RS.new p).foot.1.fat)) := rfl
  have hlen1 : ((RS.new p).take 1).1.code = 0 → ((RS.new p).take 1).2.length = 1 := fun h => by have := (take_bytes hok h).2.2.1; omega
  obtain ⟨T, hT⟩ : ∃ T, (RS.new p).take 1 = T := ⟨_, rfl⟩
  obtain ⟨k, hkk⟩ : ∃ k, (RS.new p).fkind = k := ⟨_, rfl⟩
  rw [hT] at hkq hbt hlen1
  rw [hkk] at hk hkq hfoot
  obtain ⟨v, hv⟩ : ∃ v, T.2.getD 0 0 = v := ⟨_, rfl⟩
  rw [hv] at hbt hkq
  obtain ⟨A, hA⟩ : ∃ A, k.epo epRight = A := ⟨_, rfl⟩
  obtain ⟨ka, _⟩ := epo_keep hk epRight
  rw [hA] at ka
  obtain ⟨B, hB⟩ : ∃ B, A.1.int 65536 = B := ⟨_, rfl⟩
  obtain ⟨kb, _⟩ := ka.int 65536
  rw [hB] at kb
  obtain ⟨C, hC⟩ : ∃ C, B.1.int 65536 = C := ⟨_, rfl⟩
  obtain ⟨kc, _⟩ := kb.int 65536
  rw [hC] at kc
  obtain ⟨D, hD⟩ : ∃ D, C.1.vint = D := ⟨_, rfl⟩
  obtain ⟨kd, _⟩ := kc.vint
  have rd := vint_range (s := C.1) kc.bys
  rw [hD] at kd rd
  obtain ⟨E, hE⟩ : ∃ E, D.1.vint = E := ⟨_, rfl⟩
  obtain ⟨ke, _⟩ := kd.vint
  have re := vint_range (s := D.1) kd.bys
  rw [hE] at ke re
  obtain ⟨F, hF⟩ : ∃ F, E.1.int 1099511627776 = F := ⟨_, rfl⟩
  obtain ⟨kf, _⟩ := ke.int 1099511627776
  rw [hF] at kf
  obtain ⟨G, hG⟩ : ∃ G, F.1.int 1099511627776 = G := ⟨_, rfl⟩
  obtain ⟨kg, _⟩ := kf.int 1099511627776
  rw [hG] at kg
  have hfn : k.fnums = (G.1, ⟨A.2, B.2, C.2, D.2, E.2, F.2, G.2⟩) := by
    unfold RS.fnums
    simp only [hA, hB, hC, hD, hE, hF, hG]
  rw [hfn] at hfoot
  simp only at hfoot
  refine Does.run Try.func33 b33 n33 Try.ntmps33 (by simp only [List.cons_append, List.nil_append, List.length_cons, List.length_nil, Nat.zero_add, Nat.reduceAdd, Nat.reduceSub, List.replicate]; rfl) ?_; simp only [c33, go_sem, Nat.reduceAdd, Nat.reduceMul, Int.reduceToNat, Nat.reduceLeDiff, Int.reduceLE, Int.reduceLT, ↓reduceIte, Int.reduceBEq, Int.reduceBNe, Int.reduceAdd, Int.reduceSub, Int.reduceMul, qFin_ret, qFin_normal]; (try ((refine okTr_and ?_ ?_); (· rfl)))
  refine CallK.n (cursor_New p) ?_; (simp only [go_sem, Nat.reduceAdd, Nat.reduceMul, Int.reduceToNat, Nat.reduceLeDiff, Int.reduceLE, Int.reduceLT, ↓reduceIte, Int.reduceBEq, Int.reduceBNe, Int.reduceAdd, Int.reduceSub, Int.reduceMul, qFin_ret, qFin_normal]; (try ((refine okTr_and ?_ ?_); (· rfl))))
  refine CallK.u1 (Reader_Byte (RS.new p) _ hok.ok) rfl ?_; (simp only [go_sem, Nat.reduceAdd, Nat.reduceMul, Int.reduceToNat, Nat.reduceLeDiff, Int.reduceLE, Int.reduceLT, ↓reduceIte, Int.reduceBEq, Int.reduceBNe, Int.reduceAdd, Int.reduceSub, Int.reduceMul, qFin_ret, qFin_normal, hbt]; (try ((refine okTr_and ?_ ?_); (· rfl))))
  by_cases hv3 : v = 3
  · have q3 : (v != 3) = false := by simpa using hv3
    rw [if_pos hv3] at hkq
    (simp only [go_sem, Nat.reduceAdd, Nat.reduceMul, Int.reduceToNat, Nat.reduceLeDiff, Int.reduceLE, Int.reduceLT, ↓reduceIte, Int.reduceBEq, Int.reduceBNe, Int.reduceAdd, Int.reduceSub, Int.reduceMul, qFin_ret, qFin_normal, q3]; (try ((refine okTr_and ?_ ?_); (· rfl))))
    rw [← hkq]
    refine CallK.u1 (epoch_Read k _ hk) rfl ?_; (simp only [go_sem, Nat.reduceAdd, Nat.reduceMul, Int.reduceToNat, Nat.reduceLeDiff, Int.reduceLE, Int.reduceLT, ↓reduceIte, Int.reduceBEq, Int.reduceBNe, Int.reduceAdd, Int.reduceSub, Int.reduceMul, qFin_ret, qFin_normal, hA]; (try ((refine okTr_and ?_ ?_); (· rfl))))
    refine CallK.u1 (varint_ReadInt A.1 65536 _ (by decide) ka.ok ka.bys) rfl ?_; (simp only [go_sem, Nat.reduceAdd, Nat.reduceMul, Int.reduceToNat, Nat.reduceLeDiff, Int.reduceLE, Int.reduceLT, ↓reduceIte, Int.reduceBEq, Int.reduceBNe, Int.reduceAdd, Int.reduceSub, Int.reduceMul, qFin_ret, qFin_normal, hB]; (try ((refine okTr_and ?_ ?_); (· rfl))))
    refine CallK.u1 (varint_ReadInt B.1 65536 _ (by decide) kb.ok kb.bys) rfl ?_; (simp only [go_sem, Nat.reduceAdd, Nat.reduceMul, Int.reduceToNat, Nat.reduceLeDiff, Int.reduceLE, Int.reduceLT, ↓reduceIte, Int.reduceBEq, Int.reduceBNe, Int.reduceAdd, Int.reduceSub, Int.reduceMul, qFin_ret, qFin_normal, hC]; (try ((refine okTr_and ?_ ?_); (· rfl))))
    refine CallK.u1 (varint_Read C.1 _ kc.ok kc.bys) rfl ?_; (simp only [go_sem, Nat.reduceAdd, Nat.reduceMul, Int.reduceToNat, Nat.reduceLeDiff, Int.reduceLE, Int.reduceLT, ↓reduceIte, Int.reduceBEq, Int.reduceBNe, Int.reduceAdd, Int.reduceSub, Int.reduceMul, qFin_ret, qFin_normal, hD]; (try ((refine okTr_and ?_ ?_); (· rfl))))
    refine CallK.u1 (varint_Read D.1 _ kd.ok kd.bys) rfl ?_; (simp only [go_sem, Nat.reduceAdd, Nat.reduceMul, Int.reduceToNat, Nat.reduceLeDiff, Int.reduceLE, Int.reduceLT, ↓reduceIte, Int.reduceBEq, Int.reduceBNe, Int.reduceAdd, Int.reduceSub, Int.reduceMul, qFin_ret, qFin_normal, hE]; (try ((refine okTr_and ?_ ?_); (· rfl))))
    refine CallK.u1 (varint_ReadInt E.1 1099511627776 _ (by decide) ke.ok ke.bys) rfl ?_; (simp only [go_sem, Nat.reduceAdd, Nat.reduceMul, Int.reduceToNat, Nat.reduceLeDiff, Int.reduceLE, Int.reduceLT, ↓reduceIte, Int.reduceBEq, Int.reduceBNe, Int.reduceAdd, Int.reduceSub, Int.reduceMul, qFin_ret, qFin_normal, hF]; (try ((refine okTr_and ?_ ?_); (· rfl))))
    refine CallK.u1 (varint_ReadInt F.1 1099511627776 _ (by decide) kf.ok kf.bys) rfl ?_; (simp only [go_sem, Nat.reduceAdd, Nat.reduceMul, Int.reduceToNat, Nat.reduceLeDiff, Int.reduceLE, Int.reduceLT, ↓reduceIte, Int.reduceBEq, Int.reduceBNe, Int.reduceAdd, Int.reduceSub, Int.reduceMul, qFin_ret, qFin_normal, hG]; (try ((refine okTr_and ?_ ?_); (· rfl))))
    refine CallK.p (footer_Right ⟨A.2, B.2, C.2, D.2, E.2, F.2, G.2⟩ rd.1 rd.2 re.1 re.2) ?_
    by_cases hr : rightF ⟨A.2, B.2, C.2, D.2, E.2, F.2, G.2⟩ = true
    · have hfc : G.1.fcheck ⟨A.2, B.2, C.2, D.2, E.2, F.2, G.2⟩ = G.1 := by unfold RS.fcheck; rw [if_pos hr]
      rw [hfc] at hfoot
      (simp only [go_sem, Nat.reduceAdd, Nat.reduceMul, Int.reduceToNat, Nat.reduceLeDiff, Int.reduceLE, Int.reduceLT, ↓reduceIte, Int.reduceBEq, Int.reduceBNe, Int.reduceAdd, Int.reduceSub, Int.reduceMul, qFin_ret, qFin_normal, hr]; (try ((refine okTr_and ?_ ?_); (· rfl))))
      refine CallK.u1 (Reader_End G.1 _ kg) rfl ?_; (simp only [go_sem, Nat.reduceAdd, Nat.reduceMul, Int.reduceToNat, Nat.reduceLeDiff, Int.reduceLE, Int.reduceLT, ↓reduceIte, Int.reduceBEq, Int.reduceBNe, Int.reduceAdd, Int.reduceSub, Int.reduceMul, qFin_ret, qFin_normal]; (try ((refine okTr_and ?_ ?_); (· rfl))))
      refine CallK.r1 (Reader_Fault G.1.rest9 _) rfl ?_; (simp only [go_sem, Nat.reduceAdd, Nat.reduceMul, Int.reduceToNat, Nat.reduceLeDiff, Int.reduceLE, Int.reduceLT, ↓reduceIte, Int.reduceBEq, Int.reduceBNe, Int.reduceAdd, Int.reduceSub, Int.reduceMul, qFin_ret, qFin_normal]; (try ((refine okTr_and ?_ ?_); (· rfl))))
      refine CallK.p (fault_Good G.1.rest9.code G.1.rest9.fat) ?_
      rw [hfoot] at hrd
      simp only at hrd
      by_cases hz : G.1.rest9.code = 0
      · have q : (G.1.rest9.code == 0) = true := by simpa using hz
        rw [if_pos hz] at hrd
        (simp only [go_sem, Nat.reduceAdd, Nat.reduceMul, Int.reduceToNat, Nat.reduceLeDiff, Int.reduceLE, Int.reduceLT, ↓reduceIte, Int.reduceBEq, Int.reduceBNe, Int.reduceAdd, Int.reduceSub, Int.reduceMul, qFin_ret, qFin_normal, q]; (try ((refine okTr_and ?_ ?_); (· rfl))))
        ((refine FinK.fin r33 [] ?_ ?_ ?_ ?_ ?_ ?_); (· decide); (· rfl); (· simp); (· rfl); (· first | with_reducible rfl | (simp [ints_nil, ren_lit, ren_ref, ren_any, ren_agg, ren_tup, ren_sl, ren_fn, tren_none, tren_full, tren_row, oren_cells, oren_row, oren_dead, ixs_z, ixs_1, ixs_2, ixs_3, ren_ints, List.map_cons, List.map_nil, hrd]; done) | rfl); (· simp [resAL, resA1, loadA, oneOr, ints_nil, ren_lit, ren_ref, ren_any, ren_agg, ren_tup, ren_sl, ren_fn, tren_none, tren_full, tren_row, oren_cells, oren_row, oren_dead, ixs_z, ixs_1, ixs_2, ixs_3, ren_ints, List.map_cons, List.map_nil, hrd]))
      · have q : (G.1.rest9.code == 0) = false := by simpa using hz
        rw [if_neg hz] at hrd
        (simp only [go_sem, Nat.reduceAdd, Nat.reduceMul, Int.reduceToNat, Nat.reduceLeDiff, Int.reduceLE, Int.reduceLT, ↓reduceIte, Int.reduceBEq, Int.reduceBNe, Int.reduceAdd, Int.reduceSub, Int.reduceMul, qFin_ret, qFin_normal, q]; (try ((refine okTr_and ?_ ?_); (· rfl))))
        ((refine FinK.fin r33 [] ?_ ?_ ?_ ?_ ?_ ?_); (· decide); (· rfl); (· simp); (· rfl); (· first | with_reducible rfl | (simp [ints_nil, ren_lit, ren_ref, ren_any, ren_agg, ren_tup, ren_sl, ren_fn, tren_none, tren_full, tren_row, oren_cells, oren_row, oren_dead, ixs_z, ixs_1, ixs_2, ixs_3, ren_ints, List.map_cons, List.map_nil, hrd, ft0]; done) | rfl); (· simp [resAL, resA1, loadA, oneOr, ints_nil, ren_lit, ren_ref, ren_any, ren_agg, ren_tup, ren_sl, ren_fn, tren_none, tren_full, tren_row, oren_cells, oren_row, oren_dead, ixs_z, ixs_1, ixs_2, ixs_3, ren_ints, List.map_cons, List.map_nil, hrd, ft0]))
    · have hr' : rightF ⟨A.2, B.2, C.2, D.2, E.2, F.2, G.2⟩ = false := by simpa using hr
      have hfc : G.1.fcheck ⟨A.2, B.2, C.2, D.2, E.2, F.2, G.2⟩ = G.1.fail 3 0 := by unfold RS.fcheck; rw [if_neg hr]
      rw [hfc] at hfoot
      (simp only [go_sem, Nat.reduceAdd, Nat.reduceMul, Int.reduceToNat, Nat.reduceLeDiff, Int.reduceLE, Int.reduceLT, ↓reduceIte, Int.reduceBEq, Int.reduceBNe, Int.reduceAdd, Int.reduceSub, Int.reduceMul, qFin_ret, qFin_normal, hr']; (try ((refine okTr_and ?_ ?_); (· rfl))))
      refine CallK.u1 (Reader_Fail G.1 3 0 _) rfl ?_; (simp only [go_sem, Nat.reduceAdd, Nat.reduceMul, Int.reduceToNat, Nat.reduceLeDiff, Int.reduceLE, Int.reduceLT, ↓reduceIte, Int.reduceBEq, Int.reduceBNe, Int.reduceAdd, Int.reduceSub, Int.reduceMul, qFin_ret, qFin_normal]; (try ((refine okTr_and ?_ ?_); (· rfl))))
      refine CallK.u1 (Reader_End (G.1.fail 3 0) _ (kg.fail 3 0)) rfl ?_; (simp only [go_sem, Nat.reduceAdd, Nat.reduceMul, Int.reduceToNat, Nat.reduceLeDiff, Int.reduceLE, Int.reduceLT, ↓reduceIte, Int.reduceBEq, Int.reduceBNe, Int.reduceAdd, Int.reduceSub, Int.reduceMul, qFin_ret, qFin_normal]; (try ((refine okTr_and ?_ ?_); (· rfl))))
      refine CallK.r1 (Reader_Fault (G.1.fail 3 0).rest9 _) rfl ?_; (simp only [go_sem, Nat.reduceAdd, Nat.reduceMul, Int.reduceToNat, Nat.reduceLeDiff, Int.reduceLE, Int.reduceLT, ↓reduceIte, Int.reduceBEq, Int.reduceBNe, Int.reduceAdd, Int.reduceSub, Int.reduceMul, qFin_ret, qFin_normal]; (try ((refine okTr_and ?_ ?_); (· rfl))))
      refine CallK.p (fault_Good (G.1.fail 3 0).rest9.code (G.1.fail 3 0).rest9.fat) ?_
      rw [hfoot] at hrd
      simp only at hrd
      by_cases hz : (G.1.fail 3 0).rest9.code = 0
      · have q : ((G.1.fail 3 0).rest9.code == 0) = true := by simpa using hz
        rw [if_pos hz] at hrd
        (simp only [go_sem, Nat.reduceAdd, Nat.reduceMul, Int.reduceToNat, Nat.reduceLeDiff, Int.reduceLE, Int.reduceLT, ↓reduceIte, Int.reduceBEq, Int.reduceBNe, Int.reduceAdd, Int.reduceSub, Int.reduceMul, qFin_ret, qFin_normal, q]; (try ((refine okTr_and ?_ ?_); (· rfl))))
        ((refine FinK.fin r33 [] ?_ ?_ ?_ ?_ ?_ ?_); (· decide); (· rfl); (· simp); (· rfl); (· first | with_reducible rfl | (simp [ints_nil, ren_lit, ren_ref, ren_any, ren_agg, ren_tup, ren_sl, ren_fn, tren_none, tren_full, tren_row, oren_cells, oren_row, oren_dead, ixs_z, ixs_1, ixs_2, ixs_3, ren_ints, List.map_cons, List.map_nil, hrd]; done) | rfl); (· simp [resAL, resA1, loadA, oneOr, ints_nil, ren_lit, ren_ref, ren_any, ren_agg, ren_tup, ren_sl, ren_fn, tren_none, tren_full, tren_row, oren_cells, oren_row, oren_dead, ixs_z, ixs_1, ixs_2, ixs_3, ren_ints, List.map_cons, List.map_nil, hrd]))
      · have q : ((G.1.fail 3 0).rest9.code == 0) = false := by simpa using hz
        rw [if_neg hz] at hrd
        (simp only [go_sem, Nat.reduceAdd, Nat.reduceMul, Int.reduceToNat, Nat.reduceLeDiff, Int.reduceLE, Int.reduceLT, ↓reduceIte, Int.reduceBEq, Int.reduceBNe, Int.reduceAdd, Int.reduceSub, Int.reduceMul, qFin_ret, qFin_normal, q]; (try ((refine okTr_and ?_ ?_); (· rfl))))
        ((refine FinK.fin r33 [] ?_ ?_ ?_ ?_ ?_ ?_); (· decide); (· rfl); (· simp); (· rfl); (· first | with_reducible rfl | (simp [ints_nil, ren_lit, ren_ref, ren_any, ren_agg, ren_tup, ren_sl, ren_fn, tren_none, tren_full, tren_row, oren_cells, oren_row, oren_dead, ixs_z, ixs_1, ixs_2, ixs_3, ren_ints, List.map_cons, List.map_nil, hrd, ft0]; done) | rfl); (· simp [resAL, resA1, loadA, oneOr, ints_nil, ren_lit, ren_ref, ren_any, ren_agg, ren_tup, ren_sl, ren_fn, tren_none, tren_full, tren_row, oren_cells, oren_row, oren_dead, ixs_z, ixs_1, ixs_2, ixs_3, ren_ints, List.map_cons, List.map_nil, hrd, ft0]))
  · have q3 : (v != 3) = true := by simpa using hv3
    rw [if_neg hv3] at hkq
    (simp only [go_sem, Nat.reduceAdd, Nat.reduceMul, Int.reduceToNat, Nat.reduceLeDiff, Int.reduceLE, Int.reduceLT, ↓reduceIte, Int.reduceBEq, Int.reduceBNe, Int.reduceAdd, Int.reduceSub, Int.reduceMul, qFin_ret, qFin_normal, q3]; (try ((refine okTr_and ?_ ?_); (· rfl))))
    refine CallK.u1 (Reader_Fail T.1 7 0 _) rfl ?_; (simp only [go_sem, Nat.reduceAdd, Nat.reduceMul, Int.reduceToNat, Nat.reduceLeDiff, Int.reduceLE, Int.reduceLT, ↓reduceIte, Int.reduceBEq, Int.reduceBNe, Int.reduceAdd, Int.reduceSub, Int.reduceMul, qFin_ret, qFin_normal, ← hkq]; (try ((refine okTr_and ?_ ?_); (· rfl))))
    refine CallK.u1 (epoch_Read k _ hk) rfl ?_; (simp only [go_sem, Nat.reduceAdd, Nat.reduceMul, Int.reduceToNat, Nat.reduceLeDiff, Int.reduceLE, Int.reduceLT, ↓reduceIte, Int.reduceBEq, Int.reduceBNe, Int.reduceAdd, Int.reduceSub, Int.reduceMul, qFin_ret, qFin_normal, hA]; (try ((refine okTr_and ?_ ?_); (· rfl))))
    refine CallK.u1 (varint_ReadInt A.1 65536 _ (by decide) ka.ok ka.bys) rfl ?_; (simp only [go_sem, Nat.reduceAdd, Nat.reduceMul, Int.reduceToNat, Nat.reduceLeDiff, Int.reduceLE, Int.reduceLT, ↓reduceIte, Int.reduceBEq, Int.reduceBNe, Int.reduceAdd, Int.reduceSub, Int.reduceMul, qFin_ret, qFin_normal, hB]; (try ((refine okTr_and ?_ ?_); (· rfl))))
    refine CallK.u1 (varint_ReadInt B.1 65536 _ (by decide) kb.ok kb.bys) rfl ?_; (simp only [go_sem, Nat.reduceAdd, Nat.reduceMul, Int.reduceToNat, Nat.reduceLeDiff, Int.reduceLE, Int.reduceLT, ↓reduceIte, Int.reduceBEq, Int.reduceBNe, Int.reduceAdd, Int.reduceSub, Int.reduceMul, qFin_ret, qFin_normal, hC]; (try ((refine okTr_and ?_ ?_); (· rfl))))
    refine CallK.u1 (varint_Read C.1 _ kc.ok kc.bys) rfl ?_; (simp only [go_sem, Nat.reduceAdd, Nat.reduceMul, Int.reduceToNat, Nat.reduceLeDiff, Int.reduceLE, Int.reduceLT, ↓reduceIte, Int.reduceBEq, Int.reduceBNe, Int.reduceAdd, Int.reduceSub, Int.reduceMul, qFin_ret, qFin_normal, hD]; (try ((refine okTr_and ?_ ?_); (· rfl))))
    refine CallK.u1 (varint_Read D.1 _ kd.ok kd.bys) rfl ?_; (simp only [go_sem, Nat.reduceAdd, Nat.reduceMul, Int.reduceToNat, Nat.reduceLeDiff, Int.reduceLE, Int.reduceLT, ↓reduceIte, Int.reduceBEq, Int.reduceBNe, Int.reduceAdd, Int.reduceSub, Int.reduceMul, qFin_ret, qFin_normal, hE]; (try ((refine okTr_and ?_ ?_); (· rfl))))
    refine CallK.u1 (varint_ReadInt E.1 1099511627776 _ (by decide) ke.ok ke.bys) rfl ?_; (simp only [go_sem, Nat.reduceAdd, Nat.reduceMul, Int.reduceToNat, Nat.reduceLeDiff, Int.reduceLE, Int.reduceLT, ↓reduceIte, Int.reduceBEq, Int.reduceBNe, Int.reduceAdd, Int.reduceSub, Int.reduceMul, qFin_ret, qFin_normal, hF]; (try ((refine okTr_and ?_ ?_); (· rfl))))
    refine CallK.u1 (varint_ReadInt F.1 1099511627776 _ (by decide) kf.ok kf.bys) rfl ?_; (simp only [go_sem, Nat.reduceAdd, Nat.reduceMul, Int.reduceToNat, Nat.reduceLeDiff, Int.reduceLE, Int.reduceLT, ↓reduceIte, Int.reduceBEq, Int.reduceBNe, Int.reduceAdd, Int.reduceSub, Int.reduceMul, qFin_ret, qFin_normal, hG]; (try ((refine okTr_and ?_ ?_); (· rfl))))
    refine CallK.p (footer_Right ⟨A.2, B.2, C.2, D.2, E.2, F.2, G.2⟩ rd.1 rd.2 re.1 re.2) ?_
    by_cases hr : rightF ⟨A.2, B.2, C.2, D.2, E.2, F.2, G.2⟩ = true
    · have hfc : G.1.fcheck ⟨A.2, B.2, C.2, D.2, E.2, F.2, G.2⟩ = G.1 := by unfold RS.fcheck; rw [if_pos hr]
      rw [hfc] at hfoot
      (simp only [go_sem, Nat.reduceAdd, Nat.reduceMul, Int.reduceToNat, Nat.reduceLeDiff, Int.reduceLE, Int.reduceLT, ↓reduceIte, Int.reduceBEq, Int.reduceBNe, Int.reduceAdd, Int.reduceSub, Int.reduceMul, qFin_ret, qFin_normal, hr]; (try ((refine okTr_and ?_ ?_); (· rfl))))
      refine CallK.u1 (Reader_End G.1 _ kg) rfl ?_; (simp only [go_sem, Nat.reduceAdd, Nat.reduceMul, Int.reduceToNat, Nat.reduceLeDiff, Int.reduceLE, Int.reduceLT, ↓reduceIte, Int.reduceBEq, Int.reduceBNe, Int.reduceAdd, Int.reduceSub, Int.reduceMul, qFin_ret, qFin_normal]; (try ((refine okTr_and ?_ ?_); (· rfl))))
      refine CallK.r1 (Reader_Fault G.1.rest9 _) rfl ?_; (simp only [go_sem, Nat.reduceAdd, Nat.reduceMul, Int.reduceToNat, Nat.reduceLeDiff, Int.reduceLE, Int.reduceLT, ↓reduceIte, Int.reduceBEq, Int.reduceBNe, Int.reduceAdd, Int.reduceSub, Int.reduceMul, qFin_ret, qFin_normal]; (try ((refine okTr_and ?_ ?_); (· rfl))))
      refine CallK.p (fault_Good G.1.rest9.code G.1.rest9.fat) ?_
      rw [hfoot] at hrd
      simp only at hrd
      by_cases hz : G.1.rest9.code = 0
      · have q : (G.1.rest9.code == 0) = true := by simpa using hz
        rw [if_pos hz] at hrd
        (simp only [go_sem, Nat.reduceAdd, Nat.reduceMul, Int.reduceToNat, Nat.reduceLeDiff, Int.reduceLE, Int.reduceLT, ↓reduceIte, Int.reduceBEq, Int.reduceBNe, Int.reduceAdd, Int.reduceSub, Int.reduceMul, qFin_ret, qFin_normal, q]; (try ((refine okTr_and ?_ ?_); (· rfl))))
        ((refine FinK.fin r33 [] ?_ ?_ ?_ ?_ ?_ ?_); (· decide); (· rfl); (· simp); (· rfl); (· first | with_reducible rfl | (simp [ints_nil, ren_lit, ren_ref, ren_any, ren_agg, ren_tup, ren_sl, ren_fn, tren_none, tren_full, tren_row, oren_cells, oren_row, oren_dead, ixs_z, ixs_1, ixs_2, ixs_3, ren_ints, List.map_cons, List.map_nil, hrd]; done) | rfl); (· simp [resAL, resA1, loadA, oneOr, ints_nil, ren_lit, ren_ref, ren_any, ren_agg, ren_tup, ren_sl, ren_fn, tren_none, tren_full, tren_row, oren_cells, oren_row, oren_dead, ixs_z, ixs_1, ixs_2, ixs_3, ren_ints, List.map_cons, List.map_nil, hrd]))
      · have q : (G.1.rest9.code == 0) = false := by simpa using hz
        rw [if_neg hz] at hrd
        (simp only [go_sem, Nat.reduceAdd, Nat.reduceMul, Int.reduceToNat, Nat.reduceLeDiff, Int.reduceLE, Int.reduceLT, ↓reduceIte, Int.reduceBEq, Int.reduceBNe, Int.reduceAdd, Int.reduceSub, Int.reduceMul, qFin_ret, qFin_normal, q]; (try ((refine okTr_and ?_ ?_); (· rfl))))
        ((refine FinK.fin r33 [] ?_ ?_ ?_ ?_ ?_ ?_); (· decide); (· rfl); (· simp); (· rfl); (· first | with_reducible rfl | (simp [ints_nil, ren_lit, ren_ref, ren_any, ren_agg, ren_tup, ren_sl, ren_fn, tren_none, tren_full, tren_row, oren_cells, oren_row, oren_dead, ixs_z, ixs_1, ixs_2, ixs_3, ren_ints, List.map_cons, List.map_nil, hrd, ft0]; done) | rfl); (· simp [resAL, resA1, loadA, oneOr, ints_nil, ren_lit, ren_ref, ren_any, ren_agg, ren_tup, ren_sl, ren_fn, tren_none, tren_full, tren_row, oren_cells, oren_row, oren_dead, ixs_z, ixs_1, ixs_2, ixs_3, ren_ints, List.map_cons, List.map_nil, hrd, ft0]))
    · have hr' : rightF ⟨A.2, B.2, C.2, D.2, E.2, F.2, G.2⟩ = false := by simpa using hr
      have hfc : G.1.fcheck ⟨A.2, B.2, C.2, D.2, E.2, F.2, G.2⟩ = G.1.fail 3 0 := by unfold RS.fcheck; rw [if_neg hr]
      rw [hfc] at hfoot
      (simp only [go_sem, Nat.reduceAdd, Nat.reduceMul, Int.reduceToNat, Nat.reduceLeDiff, Int.reduceLE, Int.reduceLT, ↓reduceIte, Int.reduceBEq, Int.reduceBNe, Int.reduceAdd, Int.reduceSub, Int.reduceMul, qFin_ret, qFin_normal, hr']; (try ((refine okTr_and ?_ ?_); (· rfl))))
      refine CallK.u1 (Reader_Fail G.1 3 0 _) rfl ?_; (simp only [go_sem, Nat.reduceAdd, Nat.reduceMul, Int.reduceToNat, Nat.reduceLeDiff, Int.reduceLE, Int.reduceLT, ↓reduceIte, Int.reduceBEq, Int.reduceBNe, Int.reduceAdd, Int.reduceSub, Int.reduceMul, qFin_ret, qFin_normal]; (try ((refine okTr_and ?_ ?_); (· rfl))))
      refine CallK.u1 (Reader_End (G.1.fail 3 0) _ (kg.fail 3 0)) rfl ?_; (simp only [go_sem, Nat.reduceAdd, Nat.reduceMul, Int.reduceToNat, Nat.reduceLeDiff, Int.reduceLE, Int.reduceLT, ↓reduceIte, Int.reduceBEq, Int.reduceBNe, Int.reduceAdd, Int.reduceSub, Int.reduceMul, qFin_ret, qFin_normal]; (try ((refine okTr_and ?_ ?_); (· rfl))))
      refine CallK.r1 (Reader_Fault (G.1.fail 3 0).rest9 _) rfl ?_; (simp only [go_sem, Nat.reduceAdd, Nat.reduceMul, Int.reduceToNat, Nat.reduceLeDiff, Int.reduceLE, Int.reduceLT, ↓reduceIte, Int.reduceBEq, Int.reduceBNe, Int.reduceAdd, Int.reduceSub, Int.reduceMul, qFin_ret, qFin_normal]; (try ((refine okTr_and ?_ ?_); (· rfl))))
      refine CallK.p (fault_Good (G.1.fail 3 0).rest9.code (G.1.fail 3 0).rest9.fat) ?_
      rw [hfoot] at hrd
      simp only at hrd
      by_cases hz : (G.1.fail 3 0).rest9.code = 0
      · have q : ((G.1.fail 3 0).rest9.code == 0) = true := by simpa using hz
        rw [if_pos hz] at hrd
        (simp only [go_sem, Nat.reduceAdd, Nat.reduceMul, Int.reduceToNat, Nat.reduceLeDiff, Int.reduceLE, Int.reduceLT, ↓reduceIte, Int.reduceBEq, Int.reduceBNe, Int.reduceAdd, Int.reduceSub, Int.reduceMul, qFin_ret, qFin_normal, q]; (try ((refine okTr_and ?_ ?_); (· rfl))))
        ((refine FinK.fin r33 [] ?_ ?_ ?_ ?_ ?_ ?_); (· decide); (· rfl); (· simp); (· rfl); (· first | with_reducible rfl | (simp [ints_nil, ren_lit, ren_ref, ren_any, ren_agg, ren_tup, ren_sl, ren_fn, tren_none, tren_full, tren_row, oren_cells, oren_row, oren_dead, ixs_z, ixs_1, ixs_2, ixs_3, ren_ints, List.map_cons, List.map_nil, hrd]; done) | rfl); (· simp [resAL, resA1, loadA, oneOr, ints_nil, ren_lit, ren_ref, ren_any, ren_agg, ren_tup, ren_sl, ren_fn, tren_none, tren_full, tren_row, oren_cells, oren_row, oren_dead, ixs_z, ixs_1, ixs_2, ixs_3, ren_ints, List.map_cons, List.map_nil, hrd]))
      · have q : ((G.1.fail 3 0).rest9.code == 0) = false := by simpa using hz
        rw [if_neg hz] at hrd
        (simp only [go_sem, Nat.reduceAdd, Nat.reduceMul, Int.reduceToNat, Nat.reduceLeDiff, Int.reduceLE, Int.reduceLT, ↓reduceIte, Int.reduceBEq, Int.reduceBNe, Int.reduceAdd, Int.reduceSub, Int.reduceMul, qFin_ret, qFin_normal, q]; (try ((refine okTr_and ?_ ?_); (· rfl))))
        ((refine FinK.fin r33 [] ?_ ?_ ?_ ?_ ?_ ?_); (· decide); (· rfl); (· simp); (· rfl); (· first | with_reducible rfl | (simp [ints_nil, ren_lit, ren_ref, ren_any, ren_agg, ren_tup, ren_sl, ren_fn, tren_none, tren_full, tren_row, oren_cells, oren_row, oren_dead, ixs_z, ixs_1, ixs_2, ixs_3, ren_ints, List.map_cons, List.map_nil, hrd, ft0]; done) | rfl); (· simp [resAL, resA1, loadA, oneOr, ints_nil, ren_lit, ren_ref, ren_any, ren_agg, ren_tup, ren_sl, ren_fn, tren_none, tren_full, tren_row, oren_cells, oren_row, oren_dead, ixs_z, ixs_1, ixs_2, ixs_3, ren_ints, List.map_cons, List.map_nil, hrd, ft0]))
theorem footer_ReadPayload (p : List Int) (hp : Bys p) (hn : p.length ≤ 140737488355328) : Ct Try.prog 33 [slA .u8 p] [] (fun _ => .tup [ftA (readFt p).1, fltA (readFt p).2]) [] (fun _ => []) := (footer_ReadPayload0 p hp hn).toCt (by intros; simp [ints_nil, ren_lit, ren_ref, ren_any, ren_agg, ren_tup, ren_sl, ren_fn, tren_none, tren_full, tren_row, oren_cells, oren_row, oren_dead, ixs_z, ixs_1, ixs_2, ixs_3, ren_ints, List.map_cons, List.map_nil, ixs, List.range'_succ, ren_ints]) (by intros; simp [ints_nil, ren_lit, ren_ref, ren_any, ren_agg, ren_tup, ren_sl, ren_fn, tren_none, tren_full, tren_row, oren_cells, oren_row, oren_dead, ixs_z, ixs_1, ixs_2, ixs_3, ren_ints, List.map_cons, List.map_nil, ixs, List.range'_succ, ren_ints])
end Go.Proofs.Ytkhnfleejgfhgaa
