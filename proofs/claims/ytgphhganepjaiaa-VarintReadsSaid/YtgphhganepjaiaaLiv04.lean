/-
  Chapter 4: the law's example, as a contract.
-/
import Derived.Test.YtgphhganepjaiaaRefC
import Derived.Test.YtgphhganepjaiaaSame
namespace Go.Proofs.Ytgphhganepjaiaa
open Go.RowKit

/-- A block whose cells are integers, read whole as a slice. -/
theorem Blk.rd {k : IntKind} {w : World} {g : Nat} {t : TypeId} {cs : Array Value} (h : Blk w g t cs) (l : List Int) (n : Nat) (hcs : cs = (l.map (fun z => Value.int k z)).toArray) (hn : n = l.length) (hl : l.length ≤ 140737488355328) :
    RdI k w (fun i => i = g) (.slice (some ⟨g, 0, none⟩) n n) l := by
  subst hn hcs
  refine ⟨_, _, rfl, Nat.le_refl _, by simp only [maxLen]; omega, fun _ => ⟨g, 0, rfl, rfl, fun i hi => ?_⟩⟩
  have := h.cell i
  rw [Nat.zero_add, this]
  simp [hi]

set_option maxRecDepth 100000 in
set_option maxHeartbeats 2000000 in
theorem live04 (w : World) : Calls Try.prog 63 #[] w fun r w' => r = .returned (.bool true) ∧ Ext w w' := by
  have hg1 : vGet [128, 0] = (0, 0, (4, 1)) := by decide
  have hg2 : vGet [128] = (0, 0, (1, 1)) := by decide
  have hg3 : sameB (vb 300) [172, 2] = true := by decide
  have H1 := Lib.hid hg1
  have H2 := Lib.hid hg2
  have H3 := Lib.hid hg3
  have hv3 := vb_by (x := 300) (by omega) (by omega)
  clear hg1 hg2 hg3
  go_enter Try.func63, Try.ntmps63
  have hb0 := Blk.new w 5 #[.int .u8 128, .int .u8 0]
  have hget := varint_Get _ _ _ _ (hb0.rd [128, 0] 2 rfl rfl (by simp)) (by unfold Bys; decide) (by simp)
  rw [H1.out] at hget
  have HG := Lib.hid hget
  clear hget
  (go_wp2_with fail; (with_reducible refine (HG.out).mono ?_); rintro r w1 ⟨rfl, hk1⟩)
  obtain ⟨hA, hB, hE⟩ := new2 w1 57 #[.int .i64 4, .int .i64 1] 5 #[.int .u8 128]
  have hget := varint_Get _ _ _ _ (hB.rd [128] 1 rfl rfl (by simp)) (by unfold Bys; decide) (by simp)
  rw [H2.out] at hget
  have HG2 := Lib.hid hget
  clear hget
  (go_wp2_with fail; (with_reducible refine (HG2.out).mono ?_); rintro r w2 ⟨rfl, hk2⟩)
  have lB := hE.trans hk2
  (go_wp2_with fail; (with_reducible refine (varint_Bytes 300 (by omega) (by omega) _).mono ?_); rintro r w3 ⟨v3, rfl, hO, hk3⟩)
  have hb3 := Blk.new w3 5 #[.int .u8 172, .int .u8 2]
  have hA4 := ((hA.kept hk2 trivial).alloc (.cells #[.int .i64 1, .int .i64 1] 57)).kept hk3 trivial
  have hB4 := (Blk.new w2 57 #[.int .i64 1, .int .i64 1]).kept hk3 trivial
  have lA := hA4.lt
  have lB := hB4.lt
  have d0 := hA4.cell 0; have d1 := hA4.cell 1; simp at d0 d1; have fd0 := hA4.frozen 0; have fd1 := hA4.frozen 1; have e0 := hB4.cell 0; have e1 := hB4.cell 1; simp at e0 e1; have fe0 := hB4.frozen 0; have fe1 := hB4.frozen 1
  have hsame := ref02_Same v3 _ _ [172, 2] _ _ _ ((hO.rd (F := fun _ => True) (fun _ _ _ _ => trivial)).ext ((Kept.refl _ w3).alloc (.cells #[.int .u8 172, .int .u8 2] 5))) (hb3.rd [172, 2] 2 rfl rfl (by simp)) hv3 (by unfold Bys; decide)
  rw [H3.out] at hsame
  have HS := Lib.hid hsame
  clear hsame
  (go_wp2_with fail; (with_reducible refine (HS.out).mono ?_); rintro r w4 ⟨rfl, rfl⟩)
  go_wp2
  go_ret
  refine ⟨rfl, ?_⟩
  repeat (first | with_reducible exact Kept.refl _ _ | refine Kept.set_new ?_ (by first | (simp; done) | (simp; omega) | omega) _ | refine Kept.alloc ?_ _ | refine Kept.drewN ?_ _ | refine Kept.drew ?_ | with_reducible assumption | (apply Kept.trans; rotate_left 1; with_reducible assumption))
end Go.Proofs.Ytgphhganepjaiaa
