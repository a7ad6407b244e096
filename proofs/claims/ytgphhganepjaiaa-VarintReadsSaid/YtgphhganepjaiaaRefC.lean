/-
  Contracts of the reference's At, Fail (a reader as a value), and Get.
-/
import Derived.Test.YtgphhganepjaiaaVarG
namespace Go.Proofs.Ytgphhganepjaiaa
open Go.RowKit

theorem new1 (w : World) (t1 : TypeId) (c1 : Array Value) : Blk (w.alloc (.cells c1 t1)) w.heap.size t1 c1 ∧ Ext w (w.alloc (.cells c1 t1)) :=
  ⟨Blk.new _ _ _, (Kept.refl _ _).alloc _⟩
theorem new2 (w : World) (t1 : TypeId) (c1 : Array Value) (t2 : TypeId) (c2 : Array Value) : Blk ((w.alloc (.cells c1 t1)).alloc (.cells c2 t2)) w.heap.size t1 c1 ∧ Blk ((w.alloc (.cells c1 t1)).alloc (.cells c2 t2)) (w.heap.size + 1) t2 c2 ∧ Ext w ((w.alloc (.cells c1 t1)).alloc (.cells c2 t2)) := by
  refine ⟨(Blk.new _ _ _).alloc _, ?_, ((Kept.refl _ _).alloc _).alloc _⟩
  have := Blk.new (w.alloc (.cells c1 t1)) t2 c2
  simpa using this
theorem new3 (w : World) (t1 : TypeId) (c1 : Array Value) (t2 : TypeId) (c2 : Array Value) (t3 : TypeId) (c3 : Array Value) : Blk (((w.alloc (.cells c1 t1)).alloc (.cells c2 t2)).alloc (.cells c3 t3)) w.heap.size t1 c1 ∧ Blk (((w.alloc (.cells c1 t1)).alloc (.cells c2 t2)).alloc (.cells c3 t3)) (w.heap.size + 1) t2 c2 ∧ Blk (((w.alloc (.cells c1 t1)).alloc (.cells c2 t2)).alloc (.cells c3 t3)) (w.heap.size + 2) t3 c3 ∧ Ext w (((w.alloc (.cells c1 t1)).alloc (.cells c2 t2)).alloc (.cells c3 t3)) := by
  obtain ⟨h1, h2, h3⟩ := new2 w t1 c1 t2 c2
  refine ⟨h1.alloc _, h2.alloc _, ?_, h3.alloc _⟩
  have := Blk.new ((w.alloc (.cells c1 t1)).alloc (.cells c2 t2)) t3 c3
  simpa using this
theorem Kept.set_new {w w' : World} (h : Kept (fun _ => True) w w') {p : Addr} (hp : w.heap.size ≤ p.block) (u : Value) : Kept (fun _ => True) w (w'.setCell p u) := h.setCell (fun h _ => by omega) u

/-- A reader as a value. -/
abbrev CV (sv : Value) (s : RS) : Value := .agg #[sv, .int .i64 s.at_, .int .i64 s.code, .int .i64 s.fat]

set_option maxRecDepth 100000 in
set_option maxHeartbeats 400000 in
theorem ref01_At (c a : Int) (w : World) :
    Calls Try.prog 131 #[.int .i64 c, .int .i64 a] w fun r w' => r = .returned (fltV (flt c a)) ∧ Ext w w' := by
  by_cases h : c = 0
  · subst h
    go_enter Try.func131, Try.ntmps131
    go_wp2
    exact bodyPost_ret (v := fltV (flt 0 a)) (by simp [results, Try.results131, go_sem, flt]) rfl ⟨rfl, ((Kept.refl _ _).alloc _).alloc _⟩
  · have h' : (c == 0) = false := by simpa using h
    have hf : flt c a = (c, a) := by simp [flt, h]
    rw [hf]
    clear h
    go_enter Try.func131, Try.ntmps131
    go_wp2
    exact bodyPost_ret (v := fltV (c, a)) (by simp [results, Try.results131, go_sem]) rfl ⟨rfl, ((Kept.refl _ _).alloc _).alloc _⟩

set_option maxRecDepth 100000 in
set_option maxHeartbeats 400000 in
theorem ref02_Fail (A : Option Addr) (n cp : Nat) (s : RS) (c a : Int) (w : World) :
    Calls Try.prog 129 #[CV (.slice A n cp) s, .int .i64 c, .int .i64 a] w fun r w' => r = .returned (CV (.slice A n cp) (s.fail c a)) ∧ Ext w w' := by
  by_cases h : s.code = 0
  · have h' : (s.code == 0) = true := by simpa using h
    have e : s.fail c a = { s with code := (flt c a).1, fat := (flt c a).2 } := by unfold RS.fail; rw [if_pos h]
    rw [e]
    clear e h
    go_enter Try.func129, Try.ntmps129
    obtain ⟨hA, hB, hE⟩ := new2 w 78 #[.slice A n cp, .int .i64 s.at_, .int .i64 s.code, .int .i64 s.fat] 78 #[.slice none 0 0, .int .i64 0, .int .i64 0, .int .i64 0]
    go_wp2_with (go_at_call 131; (with_reducible refine (ref01_At c a _).mono ?_); rintro r w2 ⟨rfl, hk2⟩; have hA3 := hA.kept hk2 trivial; have hB3 := hB.kept hk2 trivial; have d0 := hA3.cell 0; have d1 := hA3.cell 1; have d2 := hA3.cell 2; have d3 := hA3.cell 3; simp at d0 d1 d2 d3; have fd0 := hA3.frozen 0; have fd1 := hA3.frozen 1; have fd2 := hA3.frozen 2; have fd3 := hA3.frozen 3; have e0 := hB3.cell 0; have e1 := hB3.cell 1; have e2 := hB3.cell 2; have e3 := hB3.cell 3; simp at e0 e1 e2 e3; have fe0 := hB3.frozen 0; have fe1 := hB3.frozen 1; have fe2 := hB3.frozen 2; have fe3 := hB3.frozen 3)
    refine bodyPost_ret (v := CV (.slice A n cp) { s with code := (flt c a).1, fat := (flt c a).2 }) (by simp [results, Try.results129, go_sem, e0, e1, e2, e3]) rfl ⟨rfl, ?_⟩
    repeat (first | with_reducible exact hE.trans hk2 | refine Kept.set_new ?_ (by simp) _)
  · have h' : (s.code == 0) = false := by simpa using h
    have e : s.fail c a = s := by unfold RS.fail; rw [if_neg h]
    rw [e]
    clear e h
    go_enter Try.func129, Try.ntmps129
    obtain ⟨hA, hB, hE⟩ := new2 w 78 #[.slice A n cp, .int .i64 s.at_, .int .i64 s.code, .int .i64 s.fat] 78 #[.slice none 0 0, .int .i64 0, .int .i64 0, .int .i64 0]
    go_wp2
    refine bodyPost_ret (v := CV (.slice A n cp) s) (by simp [results, Try.results129, go_sem]) rfl ⟨rfl, ?_⟩
    repeat (first | with_reducible exact (Kept.refl _ _) | refine Kept.set_new ?_ (by simp) _ | refine Kept.alloc ?_ _)
end Go.Proofs.Ytgphhganepjaiaa
