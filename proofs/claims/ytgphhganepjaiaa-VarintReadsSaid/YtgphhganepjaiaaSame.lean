/-
  The reference's Same: two rows of bytes, compared as strings.
-/
import Derived.Test.YtgphhganepjaiaaVar
import Derived.Laws.BytesArg
namespace Go.Proofs.Ytgphhganepjaiaa
open Go.RowKit

theorem conv_I {P : Program} {w : World} {F : Nat → Prop} {v : Value} {l : List Int} (h : RdI .u8 w F v l) {src dst e : TypeId} (hs : P.underlying src = some (.slice e)) (he : P.underlying e = some (.int .u8)) (hd : P.underlying dst = some .string) :
    (convert src dst v).run P w = .ok (.string (strOfNums l)) w := by
  obtain ⟨A, c, rfl, _, _, hA⟩ := h
  by_cases h0 : 0 < l.length
  · obtain ⟨b, o, rfl, _, hc⟩ := hA h0
    exact run_convert_bytes_arg w src e hs he b o l.length c l rfl hc dst hd
  · have hl : l = [] := List.eq_nil_of_length_eq_zero (by omega)
    subst hl
    rw [run_convert_bytes_string w src dst e A _ c hs he hd]
    cases A with
    | none => simp [Conv.bytesToString]; rfl
    | some a =>
      have hl : (loadCells a ([] : List Int).length).run P w = .ok (([] : List Int).map (Value.int .u8)).toArray w := by simp [loadCells, loadCellsFrom]
      rw [run_bytesToString w a _ c [] hl]
      rfl
def sameB (l m : List Int) : Bool := decide (l = m)
theorem strOfNums_eq {l m : List Int} (hl : Bys l) (hm : Bys m) : ((strOfNums l).toList == (strOfNums m).toList) = sameB l m := by
  rw [ByteArray.toList_eq, ByteArray.toList_eq, strOfNums_data, strOfNums_data]
  unfold sameB
  rw [Bool.eq_iff_iff]
  simp only [beq_iff_eq, decide_eq_true_eq]
  constructor
  · intro h
    have key : ∀ (l m : List Int), Bys l → Bys m → (l.map fun n => UInt8.ofNat n.toNat) = (m.map fun n => UInt8.ofNat n.toNat) → l = m := by
      intro l
      induction l with
      | nil => intro m _ _ h; cases m with
        | nil => rfl
        | cons => simp at h
      | cons x l ih =>
        intro m hl hm h
        cases m with
        | nil => simp at h
        | cons y m =>
          simp only [List.map_cons, List.cons.injEq] at h
          have hx := hl x (List.mem_cons_self ..)
          have hy := hm y (List.mem_cons_self ..)
          have e := congrArg UInt8.toNat h.1
          simp only [UInt8.toNat_ofNat'] at e
          rw [Nat.mod_eq_of_lt (by omega), Nat.mod_eq_of_lt (by omega)] at e
          rw [ih m (fun z hz => hl z (List.mem_cons_of_mem _ hz)) (fun z hz => hm z (List.mem_cons_of_mem _ hz)) h.2, show x = y from by omega]
    exact key l m hl hm h
  · rintro rfl; rfl
set_option maxHeartbeats 400000 in
theorem ref02_Same (v u : Value) (l m : List Int) (F G : Nat → Prop) (w : World) (hv : RdI .u8 w F v l) (hu : RdI .u8 w G u m) (hl : Bys l) (hm : Bys m) :
    Calls Try.prog 41 #[v, u] w fun r w' => r = .returned (.bool (sameB l m)) ∧ w = w' := by
  have e1 := conv_I (P := Try.prog) hv Try.underlying37 Try.underlying5 Try.underlying9
  have e2 := conv_I (P := Try.prog) hu Try.underlying37 Try.underlying5 Try.underlying9
  have e3 := strOfNums_eq hl hm
  have HV := Lib.hid hv
  have HU := Lib.hid hu
  clear hv hu
  go_enter Try.func41, Try.ntmps41
  go_wp2
  go_ret
  exact ⟨rfl, rfl⟩
end Go.Proofs.Ytgphhganepjaiaa
