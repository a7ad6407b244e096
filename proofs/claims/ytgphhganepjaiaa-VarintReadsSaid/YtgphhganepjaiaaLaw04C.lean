/-
  Chapter 4: VarintReads.
-/
import Derived.Test.YtgphhganepjaiaaVarE
import Derived.Test.YtgphhganepjaiaaCellVarintReads
namespace Go.Proofs.Ytgphhganepjaiaa
open Go.RowKit Go.ChangeShapes Go.WideShapes Go.ChangeAt

set_option maxRecDepth 100000 in
set_option maxHeartbeats 2000000 in
theorem law_VarintReads (v : Value) (l : List Int) (at_ most : Int) (t0 : -9223372036854775808 ≤ at_) (t1 : at_ < 9223372036854775808) (m0 : -9223372036854775808 ≤ most) (m1 : most < 9223372036854775808) (w : World)
    (h : RdI .u8 w (· < w.heap.size) v l) (hl : Bys l) :
    Calls Try.prog 15 #[v, .int .i64 at_, .int .i64 most] w fun r w' => r = .returned (.bool true) ∧ Below w.heap.size w w' := by
  have HV := Lib.hid h
  obtain ⟨A, c, rfl, hlc, hcm, _⟩ := h
  unfold maxLen at hcm
  by_cases hbig : 300 < l.length
  · go_enter Try.func15, Try.ntmps15
    (go_wp2_with fail; (with_reducible refine (live04 _).mono ?_); rintro r w1 ⟨rfl, hk1⟩)
    go_wp2
    go_ret
    exact ⟨rfl, hk1.toBelow⟩
  have hnb : l.length ≤ 140737488355328 := by omega
  -- the place
  obtain ⟨q, hq0⟩ : ∃ q, (if at_ < 0 then (0 : Int) else at_) = q := ⟨_, rfl⟩
  obtain ⟨p, hp⟩ : ∃ p, (if (l.length : Int) < q then (l.length : Int) else q) = p := ⟨_, rfl⟩
  have p01 : 0 ≤ p ∧ p ≤ l.length := by rw [← hp, ← hq0]; split <;> split <;> omega
  obtain ⟨p0, p1⟩ := p01
  -- what is read
  have hget1 := fun w' (hk : Ext w w') => varint_Get _ l _ w' (HV.out.ext hk) hl hnb
  have hget2 := fun w' (hk : Ext w w') => ref04_Get _ l _ w' (HV.out.ext hk) hl hnb
  have hcn := fun w' (hk : Ext w w') => cursor_NewE _ l _ w' (HV.out.ext hk) hl hnb
  have CN := Lib.hid hcn
  clear hcn
  obtain ⟨X, N, C, Af, hq⟩ := vGet_split l
  rw [hq] at hget1 hget2
  have G1 := Lib.hid hget1
  have G2 := Lib.hid hget2
  clear hget1 hget2 hq
  have hok := ROk.at p0 p1 hl hnb
  have hsk := skip_new (l := l) p0 p1
  have hskip := fun (B : Nat → Prop) g w' (hr : Rdr B w' g (RS.new l)) => Reader_Skip g (RS.new l) p w' hr
  rw [hsk] at hskip
  simp only at hskip
  have SK := Lib.hid hskip
  clear hskip hsk
  obtain ⟨S, hS⟩ : ∃ S : RS, (⟨l, p, 0, 0⟩ : RS) = S := ⟨_, rfl⟩
  obtain ⟨M, hM⟩ : ∃ M, IntKind.u64.wrap most = M := ⟨_, rfl⟩
  have M0 : 0 ≤ M := by rw [← hM, IntKind.wrap_u64]; omega
  have hsl : S.l = l := by rw [← hS]
  have hcv : CV (.slice A l.length c) S = .agg #[.slice A l.length c, .int .i64 p, .int .i64 0, .int .i64 0] := by rw [← hS]
  rw [hS] at SK hok
  have hr0 := fun w' (hk : Ext w w') => ref04_Read A c S _ w' (hsl.symm ▸ HV.out.ext hk) hok
  have hr1 := fun w' (hk : Ext w w') => ref04_Most A c S M _ w' (hsl.symm ▸ HV.out.ext hk) hok
  have hr2 := fun w' (hk : Ext w w') => ref04_Int A c S most m1 _ w' (hsl.symm ▸ HV.out.ext hk) hok
  have hv0 := fun (B : Nat → Prop) g w' (hr : Rdr B w' g S) => varint_Read g S w' hr
  have hv1 := fun (B : Nat → Prop) g w' (hr : Rdr B w' g S) => varint_ReadMost g S M M0 w' hr
  have hv2 := fun (B : Nat → Prop) g w' (hr : Rdr B w' g S) => varint_ReadInt g S most m1 w' hr
  rw [hsl, hcv] at hr0 hr1 hr2
  obtain ⟨V0, e0⟩ : ∃ V, S.vint = V := ⟨_, rfl⟩
  obtain ⟨V1, e1⟩ : ∃ V, S.most M = V := ⟨_, rfl⟩
  obtain ⟨V2, e2⟩ : ∃ V, S.int most = V := ⟨_, rfl⟩
  rw [e0] at hr0 hv0
  rw [e1] at hr1 hv1
  rw [e2] at hr2 hv2
  obtain ⟨V0, X0⟩ := V0
  obtain ⟨V1, X1⟩ := V1
  obtain ⟨V2, X2⟩ := V2
  have R0 := Lib.hid hr0
  have R1 := Lib.hid hr1
  have R2 := Lib.hid hr2
  have Q0 := Lib.hid hv0
  have Q1 := Lib.hid hv1
  have Q2 := Lib.hid hv2
  clear e0 e1 e2 hr0 hr1 hr2 hv0 hv1 hv2 hsl hcv hok hS
  obtain ⟨n, hn⟩ : ∃ n, l.length = n := ⟨_, rfl⟩
  simp only [hn] at *
  have c2 : V0.code = 0 ∨ (¬ V0.code = 0 ∧ (V0.code == 0) = false ∧ (V0.code != 0) = true) := by
    by_cases h : V0.code = 0
    · exact .inl h
    · exact .inr ⟨h, by simpa using h, by simpa using h⟩
  go_enter Try.func15, Try.ntmps15
  (go_wp2_with fail; (with_reducible refine (G1.out _ (Kept.refl _ _)).mono ?_); rintro r w1 ⟨rfl, hk1⟩)
  have hA := Blk.new w1 57 #[.int .i64 C, .int .i64 Af]
  (go_wp2_with fail; (with_reducible refine (G2.out _ (hk1.alloc _)).mono ?_); rintro r w2 ⟨rfl, hk2⟩)
  have hA2 := hA.ext hk2
  have lA2 := hA2.lt
  have d0 := hA2.cell 0; have d1 := hA2.cell 1; simp at d0 d1; have fd0 := hA2.frozen 0; have fd1 := hA2.frozen 1
  have E2 : Ext w w2 := (hk1.alloc _).trans hk2
  go_wp2_with fail
  refine wp_loop_rounds 4 ?_
  rw [rounds_succ]
  have hArr := Blk.new' (w2.alloc (.cells #[.int .i64 C, .int .i64 Af] 57)) 83 #[.pointer none, .pointer none, .pointer none] (w2.heap.size + 1) (by simp)
  have E3 : Ext w ((w2.alloc (.cells #[.int .i64 C, .int .i64 Af] 57)).alloc (.cells #[.pointer none, .pointer none, .pointer none] 83)) := (E2.alloc _).alloc _
  (go_wp2_with fail; (with_reducible refine (CN.out _ E3).mono ?_); rintro r w3 ⟨g1, hg1, rfl, hk3, hr3, hs3⟩)
  have E4 := E3.trans hk3
  have B3 := hArr.ext hk3
  have lB3 := B3.lt
  have q1 : w.heap.size ≤ g1 ∧ w2.heap.size + 1 < g1 := by rw [hg1]; have := E2.size; simp; omega
  clear hg1
  have k0 := B3.cell 0; have k1 := B3.cell 1; have k2 := B3.cell 2; simp at k0 k1 k2; have fk0 := B3.frozen 0; have fk1 := B3.frozen 1; have fk2 := B3.frozen 2
  have hr3' := hr3.kept (((Kept.refl (· ≠ w2.heap.size + 1) w3)).setCell (p := ⟨w2.heap.size + 1, 0, none⟩) (by simp) (ptr g1)) (by omega) (fun i _ _ hb => by have := E2.size; omega)
  (go_wp2_with fail; (with_reducible refine (SK.out _ _ _ hr3').mono ?_); rintro r w4 ⟨rfl, hk4, hr4⟩)
  have E5 : Ext w w4 := (E4.set_new (by have := E2.size; simp; omega) _).reader hk4 (by omega)
  have B5 := (B3.set_ 0 (ptr g1)).kept hk4 (by omega)
  have lB5 := B5.lt
  have z4 := hk4.size
  rw [size_set] at z4
  clear k0 fk0 k1 fk1 k2 fk2
  have k0 := B5.cell 0; have k1 := B5.cell 1; have k2 := B5.cell 2; simp at k0 k1 k2; have fk0 := B5.frozen 0; have fk1 := B5.frozen 1; have fk2 := B5.frozen 2
  clear hr3 hr3' B3 hk3 hk4
  go_wp2_with fail
  rw [rounds_succ]
  (go_wp2_with fail; (with_reducible refine (CN.out _ E5).mono ?_); rintro r w5 ⟨g2, hg2, rfl, hk5, hr5, hs5⟩)
  have E6 := E5.trans hk5
  have B6 := B5.ext hk5
  have lB6 := B6.lt
  have q2 : g1 < g2 := by omega
  have hr4' := hr4.ext hk5
  have z5 := hk5.size
  clear hg2
  clear k0 fk0 k1 fk1 k2 fk2
  have k0 := B6.cell 0; have k1 := B6.cell 1; have k2 := B6.cell 2; simp at k0 k1 k2; have fk0 := B6.frozen 0; have fk1 := B6.frozen 1; have fk2 := B6.frozen 2
  have K5 := (Kept.refl (· ≠ w2.heap.size + 1) w5).setCell (p := ⟨w2.heap.size + 1, 1, none⟩) (by simp) (ptr g2)
  have hr5' := hr5.kept K5 (by omega) (fun i _ _ hb => by have := E2.size; omega)
  have hr4'' := hr4'.kept K5 (by omega) (fun i _ _ hb => by have := E2.size; omega)
  (go_wp2_with fail; (with_reducible refine (SK.out _ _ _ hr5').mono ?_); rintro r w6 ⟨rfl, hk6, hr6⟩)
  have E7 : Ext w w6 := (E6.set_new (by have := E2.size; simp; omega) _).reader hk6 (by omega)
  have B7 := (B6.set_ 1 (ptr g2)).kept hk6 (by omega)
  have lB7 := B7.lt
  have z6 := hk6.size
  rw [size_set] at z6
  have hr41 := hr4''.other hk6 (by omega) (fun i hb => by omega)
  clear k0 fk0 k1 fk1 k2 fk2
  have k0 := B7.cell 0; have k1 := B7.cell 1; have k2 := B7.cell 2; simp at k0 k1 k2; have fk0 := B7.frozen 0; have fk1 := B7.frozen 1; have fk2 := B7.frozen 2
  clear hr4 hr4' hr4'' hr5 hr5' B5 B6 K5 hk5 hk6
  go_wp2_with fail
  rw [rounds_succ]
  (go_wp2_with fail; (with_reducible refine (CN.out _ E7).mono ?_); rintro r w7 ⟨g3, hg3, rfl, hk7, hr7, hs7⟩)
  have E8 := E7.trans hk7
  have B8 := B7.ext hk7
  have lB8 := B8.lt
  have q3 : g2 < g3 := by omega
  have z7 := hk7.size
  have p1 := hr41.ext hk7
  have p2 := hr6.ext hk7
  clear hg3
  clear k0 fk0 k1 fk1 k2 fk2
  have k0 := B8.cell 0; have k1 := B8.cell 1; have k2 := B8.cell 2; simp at k0 k1 k2; have fk0 := B8.frozen 0; have fk1 := B8.frozen 1; have fk2 := B8.frozen 2
  have K7 := (Kept.refl (· ≠ w2.heap.size + 1) w7).setCell (p := ⟨w2.heap.size + 1, 2, none⟩) (by simp) (ptr g3)
  have hr7' := hr7.kept K7 (by omega) (fun i _ _ hb => by have := E2.size; omega)
  have p1' := p1.kept K7 (by omega) (fun i _ _ hb => by have := E2.size; omega)
  have p2' := p2.kept K7 (by omega) (fun i _ _ hb => by have := E2.size; omega)
  (go_wp2_with fail; (with_reducible refine (SK.out _ _ _ hr7').mono ?_); rintro r w8 ⟨rfl, hk8, hr8⟩)
  have E9 : Ext w w8 := (E8.set_new (by have := E2.size; simp; omega) _).reader hk8 (by omega)
  have B9 := (B8.set_ 2 (ptr g3)).kept hk8 (by omega)
  have lB9 := B9.lt
  have z8 := hk8.size
  rw [size_set] at z8
  have r1 := p1'.other hk8 (by omega) (fun i hb => by omega)
  have r2 := p2'.other hk8 (by omega) (fun i hb => by omega)
  clear k0 fk0 k1 fk1 k2 fk2
  have k0 := B9.cell 0; have k1 := B9.cell 1; have k2 := B9.cell 2; simp at k0 k1 k2; have fk0 := B9.frozen 0; have fk1 := B9.frozen 1; have fk2 := B9.frozen 2
  clear p1 p2 p1' p2' hr7 hr7' hr6 hr41 B7 B8 K7 hk7 hk8
  go_wp2_with fail
  rw [rounds_succ]
  (go_wp2_with fail; (with_reducible refine (R0.out _ ((E9.alloc _))).mono ?_); rintro r w9 ⟨rfl, hk9⟩)
  have bC := (Blk.new w8 78 #[.slice A n c, .int .i64 p, .int .i64 0, .int .i64 0]).ext hk9
  have lC := bC.lt
  have m0 := bC.cell 0; have m1 := bC.cell 1; have m2 := bC.cell 2; have m3 := bC.cell 3; simp at m0 m1 m2 m3; have fm0 := bC.frozen 0; have fm1 := bC.frozen 1; have fm2 := bC.frozen 2; have fm3 := bC.frozen 3
  have E10 := (E9.alloc _).trans hk9
  have bX := Blk.new w9 78 #[.slice A n c, .int .i64 V0.at_, .int .i64 V0.code, .int .i64 V0.fat]
  have F9 := ((Kept.refl (fun _ => True) w8).alloc _).trans hk9
  have zF9 := F9.size
  (go_wp2_with fail; (with_reducible refine (R1.out _ (E10.alloc _)).mono ?_); rintro r w10 ⟨rfl, hk10⟩)
  have bC1 := (bC.alloc _).ext hk10
  have lC1 := bC1.lt
  clear m0 fm0 m1 fm1 m2 fm2 m3 fm3
  have m0 := bC1.cell 0; have m1 := bC1.cell 1; have m2 := bC1.cell 2; have m3 := bC1.cell 3; simp at m0 m1 m2 m3; have fm0 := bC1.frozen 0; have fm1 := bC1.frozen 1; have fm2 := bC1.frozen 2; have fm3 := bC1.frozen 3
  have bX1 := bX.ext hk10
  have lX1 := bX1.lt
  have bY := Blk.new w10 78 #[.slice A n c, .int .i64 V1.at_, .int .i64 V1.code, .int .i64 V1.fat]
  have E11 := (E10.alloc _).trans hk10
  have F10 := (F9.alloc _).trans hk10
  have zF10 := F10.size
  clear hk9 hk10
  (go_wp2_with fail; (with_reducible refine (R2.out _ (E11.alloc _)).mono ?_); rintro r w11 ⟨rfl, hk11⟩)
  have E12 := (E11.alloc _).trans hk11
  have F11 := (F10.alloc _).trans hk11
  have bX2 := (bX1.alloc _).ext hk11
  have lX2 := bX2.lt
  have bY2 := bY.ext hk11
  have lY2 := bY2.lt
  have bZ := Blk.new w11 78 #[.slice A n c, .int .i64 V2.at_, .int .i64 V2.code, .int .i64 V2.fat]
  have B11 := B9.ext F11
  have lB11 := B11.lt
  clear k0 fk0 k1 fk1 k2 fk2
  have k0 := B11.cell 0; have k1 := B11.cell 1; have k2 := B11.cell 2; simp at k0 k1 k2; have fk0 := B11.frozen 0; have fk1 := B11.frozen 1; have fk2 := B11.frozen 2
  have z11 := F11.size
  have G11 := F11.alloc (.cells #[.slice A n c, .int .i64 V2.at_, .int .i64 V2.code, .int .i64 V2.fat] 78)
  (go_wp2_with fail; (with_reducible refine (Q0.out _ _ _ (r1.ext G11)).mono ?_); rintro r w12 ⟨rfl, hk12, s1⟩)
  have s2 := (r2.ext G11).other hk12 (by omega) (fun i hb => by omega)
  have s3 := (hr8.ext G11).other hk12 (by omega) (fun i hb => by omega)
  have B12 := (B11.alloc _).kept hk12 (by omega)
  have z12 := hk12.size
  simp at z12
  clear k0 fk0 k1 fk1 k2 fk2
  have k0 := B12.cell 0; have k1 := B12.cell 1; have k2 := B12.cell 2; simp at k0 k1 k2; have fk0 := B12.frozen 0; have fk1 := B12.frozen 1; have fk2 := B12.frozen 2
  have bX3 := (bX2.alloc _).kept hk12 (by omega)
  have bY3 := (bY2.alloc _).kept hk12 (by omega)
  have bZ3 := bZ.kept hk12 (by omega)
  have E13 := (E12.alloc _).reader hk12 (by omega)
  clear hk12 bX2 bY2 bZ bX1 bX bY
  (go_wp2_with fail; (with_reducible refine (Q1.out _ _ _ s2).mono ?_); rintro r w13 ⟨rfl, hk13, u2⟩)
  have u1 := s1.other hk13 (by omega) (fun i hb => by omega)
  have u3 := s3.other hk13 (by omega) (fun i hb => by omega)
  have B13 := B12.kept hk13 (by omega)
  have z13 := hk13.size
  clear k0 fk0 k1 fk1 k2 fk2
  have k0 := B13.cell 0; have k1 := B13.cell 1; have k2 := B13.cell 2; simp at k0 k1 k2; have fk0 := B13.frozen 0; have fk1 := B13.frozen 1; have fk2 := B13.frozen 2
  have bX4 := bX3.kept hk13 (by omega)
  have bY4 := bY3.kept hk13 (by omega)
  have bZ4 := bZ3.kept hk13 (by omega)
  have E14 := E13.reader hk13 (by omega)
  clear hk13 s1 s2 s3 bX3 bY3 bZ3 B12
  (go_wp2_with fail; (with_reducible refine (Q2.out _ _ _ u3).mono ?_); rintro r w14 ⟨rfl, hk14, x3⟩)
  have x1 := u1.other hk14 (by omega) (fun i hb => by omega)
  have x2 := u2.other hk14 (by omega) (fun i hb => by omega)
  have B14 := B13.kept hk14 (by omega)
  have z14 := hk14.size
  clear k0 k1 k2 fk0 fk1 fk2
  have k0 := B14.cell 0; have k1 := B14.cell 1; have k2 := B14.cell 2; simp at k0 k1 k2
  have bX5 := bX4.kept hk14 (by omega)
  have bY5 := bY4.kept hk14 (by omega)
  have bZ5 := bZ4.kept hk14 (by omega)
  have cx0 := bX5.cell 0; have cx1 := bX5.cell 1; have cx2 := bX5.cell 2; have cx3 := bX5.cell 3; simp at cx0 cx1 cx2 cx3; have cy0 := bY5.cell 0; have cy1 := bY5.cell 1; have cy2 := bY5.cell 2; have cy3 := bY5.cell 3; simp at cy0 cy1 cy2 cy3; have cz0 := bZ5.cell 0; have cz1 := bZ5.cell 1; have cz2 := bZ5.cell 2; have cz3 := bZ5.cell 3; simp at cz0 cz1 cz2 cz3
  have E15 := E14.reader hk14 (by omega)
  clear hk14 u1 u2 u3 bX4 bY4 bZ4 B13
  go_wp2_with fail
  clear G1 G2 SK CN R0 R1 R2 Q0 Q1 Q2 HV hl hlc hcm hbig hnb B14 bX5 bY5 bZ5 hM M0 m0 m1 m2 m3 fm0 fm1 fm2 fm3 hq0 hp t0 t1 p0 p1
  have D0 : Ext w14 w14.drew := (Kept.refl _ w14).drew
  rcases c2 with c2 | ⟨c0, c2, c2'⟩
  all_goals
    first
    | (go_region_held3 (fun w' => w'.cell? ⟨w2.heap.size + 1, 0, none⟩ = some (ptr g1) ∧ w'.cell? ⟨w2.heap.size + 1, 1, none⟩ = some (ptr g2) ∧ w'.cell? ⟨w2.heap.size + 1, 2, none⟩ = some (ptr g3) ∧ w'.cell? ⟨w9.heap.size, 1, none⟩ = some (.int .i64 V0.at_) ∧ w'.cell? ⟨w9.heap.size, 2, none⟩ = some (.int .i64 V0.code) ∧ w'.cell? ⟨w9.heap.size, 3, none⟩ = some (.int .i64 V0.fat) ∧ w'.cell? ⟨w10.heap.size, 2, none⟩ = some (.int .i64 V1.code) ∧ w'.cell? ⟨w10.heap.size, 3, none⟩ = some (.int .i64 V1.fat) ∧ w'.cell? ⟨w11.heap.size, 2, none⟩ = some (.int .i64 V2.code) ∧ w'.cell? ⟨w11.heap.size, 3, none⟩ = some (.int .i64 V2.fat)) (first | exact ⟨KW.cell k0 trivial, KW.cell k1 trivial, KW.cell k2 trivial, KW.cell cx1 trivial, KW.cell cx2 trivial, KW.cell cx3 trivial, KW.cell cy2 trivial, KW.cell cy3 trivial, KW.cell cz2 trivial, KW.cell cz3 trivial⟩ | go_keep)
      (first
        | (go_at_call 78; (with_reducible refine (Reader_Fault g1 V0 _ (x1.ext D0)).mono ?_); rintro r wa ⟨rfl, hka⟩; have KW := D0.trans hka)
        | (go_at_call 78; (with_reducible refine (Reader_Fault g2 V1 _ (x2.ext KW)).mono ?_); rintro r wb ⟨rfl, hkb⟩; have KW := KW.trans hkb)
        | (go_at_call 78; (with_reducible refine (Reader_Fault g3 V2 _ (x3.ext KW)).mono ?_); rintro r wc ⟨rfl, hkc⟩; have KW := KW.trans hkc)
        | (go_at_call 79; (with_reducible refine (Reader_At g1 V0 _ (x1.ext KW)).mono ?_); rintro r w' ⟨rfl, rfl⟩)
        | (go_at_call 63; (with_reducible refine (live04 _).mono ?_); rintro r wd ⟨rfl, hkd⟩; have KW := KW.trans hkd)))
    | fail
    all_goals
      go_wp2
      go_ret
      exact ⟨rfl, (E15.trans KW).toBelow⟩
end Go.Proofs.Ytgphhganepjaiaa
