/-
  Closed facts on the program of this seat: where each function leads, and what it names.
-/
import Derived.Test.YtgphhganepjaiaaClos
import Derived.Test.YtgphhganepjaiaaBase
namespace Go.Proofs.Ytgphhganepjaiaa
open Go.RowKit

def TELLS0 : List (List Nat × Bool × Bool × List Nat) := [([], true, false, []),
  ([], true, false, []),
  ([1], false, false, []),
  ([28, 29, 28, 28, 28, 30], false, false, []),
  ([30, 31, 32, 32, 32, 33, 30], false, false, []),
  ([34, 32, 35, 36, 37, 37, 38, 39, 40, 40, 32, 36, 42, 41, 42, 41, 30], false, false, []),
  ([43, 37, 37, 44, 45, 40, 40, 46, 41, 47, 41, 48, 49, 48, 48, 43], false, false, []),
  ([50, 51, 52, 52, 53, 54, 54, 51], false, false, []),
  ([51, 50, 52, 55, 56, 54, 53, 51, 50, 56, 54, 51], false, false, []),
  ([57, 37, 58, 40, 59, 60, 61, 57, 60, 62, 41, 61, 57], false, false, []),
  ([63, 64, 63, 65, 41, 63], false, false, []),
  ([66, 67, 68, 69, 66, 66], false, false, []),
  ([66, 70, 69, 66, 71, 66], false, false, []),
  ([63, 65, 64, 72, 72, 72, 63], false, false, []),
  ([30, 73, 74, 75, 76, 77, 78, 79, 42, 79, 41, 30], false, false, []),
  ([63, 64, 80, 73, 81, 82, 83, 84, 85, 86, 87, 78, 78, 78, 79, 63], false, false, []),
  ([66, 88, 89, 69, 66, 66, 71, 66], false, false, []),
  ([63, 37, 90, 91, 40, 42, 42, 41, 65, 42, 41, 72, 42, 63], false, false, []),
  ([57, 92, 93, 94, 95, 92, 94, 94, 92, 37, 96, 40, 73, 82, 93, 42, 41, 97, 95, 78, 57], false, false, []),
  ([57, 73, 98, 99, 54, 78, 79, 59, 57], false, false, []),
  ([43, 73, 73, 100, 101, 102, 46, 79, 41, 102, 47, 79, 41, 102, 102, 43], false, false, []),
  ([51, 73, 103, 104, 54, 78, 51, 79, 50, 105, 41, 51], false, false, []),
  ([57, 59, 62, 73, 98, 54, 102, 79, 61, 73, 98, 102, 57, 37, 58, 40, 79, 41, 57], false, false, []),
  ([43, 73, 73, 73, 106, 107, 108, 100, 41, 101, 54, 109, 78, 78, 78, 79, 79, 79, 43], false, false, []),
  ([43, 37, 44, 45, 110, 90, 40, 73, 100, 101, 109, 102, 41, 54, 111, 43], false, false, []),
  ([51, 37, 112, 40, 50, 113, 51, 73, 103, 105, 41, 113, 102, 79, 54, 51], false, false, []),
  ([66, 73, 114, 115, 116, 78, 66, 79, 69, 117, 41, 66], false, false, []),
  ([66, 118, 37, 119, 40, 41, 120, 69, 121, 116, 69, 66, 73, 114, 117, 41, 102, 79, 116, 66], false, false, []),
  ([34, 34], false, false, []),
  ([32, 32], false, false, []),
  ([28, 28, 34], false, false, []),
  ([34, 34], false, false, []),
  ([], false, false, []),
  ([34], false, false, []),
  ([], false, false, []),
  ([], false, false, []),
  ([], false, false, []),
  ([], false, false, []),
  ([34, 122], false, false, []),
  ([35, 122], false, false, [])]
set_option maxRecDepth 100000 in
theorem tells_eq0 : ((Try.prog.funcs.toList.drop 0).take 40).map (tellOf Try.prog) = TELLS0 := by kernel_rfl
def TELLS1 : List (List Nat × Bool × Bool × List Nat) := [([123], false, false, []),
  ([], false, false, []),
  ([42], false, false, []),
  ([37, 44, 45, 40, 41], false, false, []),
  ([91, 90], false, false, []),
  ([91, 91], false, false, []),
  ([42], false, false, []),
  ([42, 42], false, false, []),
  ([72], false, false, []),
  ([72, 72], false, false, []),
  ([], false, false, []),
  ([37, 112, 40, 41], false, false, []),
  ([], false, false, []),
  ([], false, false, []),
  ([], false, false, []),
  ([52], false, false, []),
  ([], false, false, []),
  ([37, 58, 40, 92, 41], false, false, []),
  ([60, 124, 125, 91], false, false, []),
  ([], false, false, []),
  ([], false, false, []),
  ([60, 125, 72], false, false, []),
  ([42, 42], false, false, []),
  ([64, 64, 65, 41], false, false, []),
  ([73, 85, 102, 78, 79], false, false, []),
  ([], false, false, []),
  ([118, 41], false, false, []),
  ([120], false, false, []),
  ([120, 126], false, false, []),
  ([], false, false, []),
  ([120, 126], false, false, []),
  ([], false, false, []),
  ([], false, false, []),
  ([], false, false, []),
  ([127, 34], false, false, []),
  ([127, 35], false, false, []),
  ([127, 128], false, false, []),
  ([82, 32, 36, 129], false, false, []),
  ([130], false, false, []),
  ([], false, false, [])]
set_option maxRecDepth 100000 in
theorem tells_eq1 : ((Try.prog.funcs.toList.drop 40).take 40).map (tellOf Try.prog) = TELLS1 := by kernel_rfl
def TELLS2 : List (List Nat × Bool × Bool × List Nat) := [([131, 131, 131], false, false, []),
  ([102, 132, 111, 132], false, false, []),
  ([80, 131], false, false, []),
  ([82, 129], false, false, []),
  ([83, 82, 129], false, false, []),
  ([79, 133, 102, 79, 132, 79, 79, 132], false, false, []),
  ([79, 85, 132], false, false, []),
  ([86, 79, 85, 132], false, false, []),
  ([120, 126], false, false, []),
  ([120, 135, 134], false, false, []),
  ([123, 136, 124], false, false, []),
  ([65, 90], false, false, []),
  ([], false, false, []),
  ([], false, false, []),
  ([], false, false, []),
  ([], false, false, []),
  ([92, 91], false, false, []),
  ([85, 94], false, false, []),
  ([79, 85, 132, 102], false, false, []),
  ([82, 129], false, false, []),
  ([87, 137], false, false, []),
  ([87, 85, 102, 102], false, false, []),
  ([138], false, false, []),
  ([87, 79, 85, 132, 102], false, false, []),
  ([84, 82, 129], false, false, []),
  ([42, 56, 42], false, false, []),
  ([84, 139], false, false, []),
  ([84, 82], false, false, []),
  ([139], false, false, []),
  ([137], false, false, []),
  ([140, 90], false, false, []),
  ([], false, false, []),
  ([52, 124, 91, 91], false, false, []),
  ([52, 72, 72], false, false, []),
  ([87, 79, 85, 87, 87, 141, 132, 102, 126], false, false, []),
  ([84, 82, 84, 84, 129], false, false, []),
  ([], false, false, []),
  ([42, 42], false, false, []),
  ([37, 119, 40], false, false, []),
  ([120, 124, 91, 91, 91, 91, 126], false, false, [])]
set_option maxRecDepth 100000 in
theorem tells_eq2 : ((Try.prog.funcs.toList.drop 80).take 40).map (tellOf Try.prog) = TELLS2 := by kernel_rfl
def TELLS3 : List (List Nat × Bool × Bool × List Nat) := [([141, 126], false, false, []),
  ([142], false, false, []),
  ([124, 91], false, false, []),
  ([], false, false, []),
  ([123], false, false, []),
  ([], false, false, []),
  ([], false, false, []),
  ([79, 85, 132, 102], false, true, []),
  ([], false, false, []),
  ([131], false, false, []),
  ([], false, false, []),
  ([], false, false, []),
  ([102, 130], false, false, []),
  ([81], false, false, []),
  ([], false, true, []),
  ([126], false, false, []),
  ([], false, false, []),
  ([81], false, false, []),
  ([], false, false, []),
  ([129, 129], false, false, []),
  ([], false, false, []),
  ([126], false, false, []),
  ([], false, false, []),
  ([], true, false, []),
  ([], true, false, []),
  ([], true, false, []),
  ([], true, false, []),
  ([], true, false, []),
  ([], true, false, []),
  ([], true, false, []),
  ([], true, false, []),
  ([], true, false, []),
  ([], true, false, []),
  ([], true, false, []),
  ([], true, false, []),
  ([], true, false, []),
  ([], true, false, []),
  ([], true, false, []),
  ([], true, false, []),
  ([], true, false, [])]
set_option maxRecDepth 100000 in
theorem tells_eq3 : ((Try.prog.funcs.toList.drop 120).take 40).map (tellOf Try.prog) = TELLS3 := by kernel_rfl
def TELLS4 : List (List Nat × Bool × Bool × List Nat) := [([], true, false, [])]
set_option maxRecDepth 100000 in
theorem tells_eq4 : ((Try.prog.funcs.toList.drop 160).take 1).map (tellOf Try.prog) = TELLS4 := by kernel_rfl
def TELLS : List (List Nat × Bool × Bool × List Nat) := TELLS0 ++ TELLS1 ++ TELLS2 ++ TELLS3 ++ TELLS4
theorem tells_size : Try.prog.funcs.toList.length = 161 := by kernel_rfl
theorem split_at {α : Type} (l : List α) (i n : Nat) : (l.drop i) = (l.drop i).take n ++ l.drop (i + n) := by
  rw [← List.drop_drop]; exact (List.take_append_drop n _).symm
theorem tells_eq : Try.prog.funcs.toList.map (tellOf Try.prog) = TELLS := by
  have h0 : Try.prog.funcs.toList = Try.prog.funcs.toList.drop 0 := rfl
  rw [h0]
  rw [split_at Try.prog.funcs.toList 0 40, List.map_append, tells_eq0]
  rw [split_at Try.prog.funcs.toList 40 40, List.map_append, tells_eq1]
  rw [split_at Try.prog.funcs.toList 80 40, List.map_append, tells_eq2]
  rw [split_at Try.prog.funcs.toList 120 40, List.map_append, tells_eq3]
  rw [split_at Try.prog.funcs.toList 160 1, List.map_append, tells_eq4]
  rw [List.drop_eq_nil_of_le (by rw [tells_size]; omega)]
  simp [TELLS]
def initSigns : List Nat := [104, 97, 114, 110, 101, 115, 115, 32, 53, 97, 52, 48, 54, 54, 99, 57, 53, 56, 48, 54, 99, 54, 50, 102, 54, 57, 53, 97, 97, 50, 52, 55, 56, 97, 56, 52, 48, 52, 57, 97, 99, 102, 54, 48, 57, 54, 54, 102, 102, 100, 55, 97, 102, 97, 57, 49, 99, 97, 102, 102, 50, 49, 98, 51, 50, 99, 48, 51, 98, 56, 53, 54, 32, 99, 117, 116, 32, 97, 116, 32, 116, 104, 111, 108, 101, 112, 105, 110, 47, 116, 104, 111, 108, 101, 112, 105, 110, 108, 97, 119, 49, 55, 46, 69, 112, 111, 99, 104, 65, 100, 109, 105, 116, 115, 32, 116, 104, 111, 108, 101, 112, 105, 110, 47, 116, 104, 111, 108, 101, 112, 105, 110, 108, 97, 119, 49, 55, 46, 69, 112, 111, 99, 104, 78, 101, 120, 116, 32, 116, 104, 111, 108, 101, 112, 105, 110, 47, 116, 104, 111, 108, 101, 112, 105, 110, 108, 97, 119, 49, 55, 46, 69, 112, 111, 99, 104, 87, 114, 105, 116, 101, 115, 32, 116, 104, 111, 108, 101, 112, 105, 110, 47, 116, 104, 111, 108, 101, 112, 105, 110, 108, 97, 119, 48, 54, 46, 66, 108, 111, 98, 87, 114, 105, 116, 101, 115, 32, 116, 104, 111, 108, 101, 112, 105, 110, 47, 116, 104, 111, 108, 101, 112, 105, 110, 108, 97, 119, 50, 50, 46, 68, 101, 108, 116, 97, 77, 111, 118, 101, 115, 32, 116, 104, 111, 108, 101, 112, 105, 110, 47, 116, 104, 111, 108, 101, 112, 105, 110, 108, 97, 119, 50, 50, 46, 68, 101, 108, 116, 97, 84, 101, 108, 108, 115, 32, 116, 104, 111, 108, 101, 112, 105, 110, 47, 116, 104, 111, 108, 101, 112, 105, 110, 108, 97, 119, 48, 53, 46, 90, 105, 103, 122, 97, 103, 82, 105, 115, 101, 115, 32, 116, 104, 111, 108, 101, 112, 105, 110, 47, 116, 104, 111, 108, 101, 112, 105, 110, 108, 97, 119, 48, 52, 46, 86, 97, 114, 105, 110, 116, 79, 110, 99, 101, 32, 116, 104, 111, 108, 101, 112, 105, 110, 47, 116, 104, 111, 108, 101, 112, 105, 110, 108, 97, 119, 51, 50, 46, 73, 110, 100, 101, 120, 69, 110, 100, 115, 32, 116, 104, 111, 108, 101, 112, 105, 110, 47, 116, 104, 111, 108, 101, 112, 105, 110, 108, 97, 119, 51, 50, 46, 73, 110, 100, 101, 120, 70, 105, 110, 100, 115, 32, 116, 104, 111, 108, 101, 112, 105, 110, 47, 116, 104, 111, 108, 101, 112, 105, 110, 108, 97, 119, 48, 52, 46, 86, 97, 114, 105, 110, 116, 66, 97, 99, 107, 32, 116, 104, 111, 108, 101, 112, 105, 110, 47, 116, 104, 111, 108, 101, 112, 105, 110, 108, 97, 119, 49, 55, 46, 69, 112, 111, 99, 104, 82, 101, 97, 100, 115, 32, 116, 104, 111, 108, 101, 112, 105, 110, 47, 116, 104, 111, 108, 101, 112, 105, 110, 108, 97, 119, 48, 52, 46, 86, 97, 114, 105, 110, 116, 82, 101, 97, 100, 115, 32, 116, 104, 111, 108, 101, 112, 105, 110, 47, 116, 104, 111, 108, 101, 112, 105, 110, 108, 97, 119, 51, 50, 46, 73, 110, 100, 101, 120, 71, 97, 112, 115, 32, 116, 104, 111, 108, 101, 112, 105, 110, 47, 116, 104, 111, 108, 101, 112, 105, 110, 108, 97, 119, 48, 52, 46, 86, 97, 114, 105, 110, 116, 87, 114, 105, 116, 101, 115, 32, 116, 104, 111, 108, 101, 112, 105, 110, 47, 116, 104, 111, 108, 101, 112, 105, 110, 108, 97, 119, 48, 53, 46, 90, 105, 103, 122, 97, 103, 83, 105, 103, 110, 115, 32, 116, 104, 111, 108, 101, 112, 105, 110, 47, 116, 104, 111, 108, 101, 112, 105, 110, 108, 97, 119, 48, 53, 46, 90, 105, 103, 122, 97, 103, 82, 101, 97, 100, 115, 32, 116, 104, 111, 108, 101, 112, 105, 110, 47, 116, 104, 111, 108, 101, 112, 105, 110, 108, 97, 119, 48, 54, 46, 66, 108, 111, 98, 79, 110, 99, 101, 32, 116, 104, 111, 108, 101, 112, 105, 110, 47, 116, 104, 111, 108, 101, 112, 105, 110, 108, 97, 119, 50, 50, 46, 68, 101, 108, 116, 97, 82, 101, 97, 100, 115, 32, 116, 104, 111, 108, 101, 112, 105, 110, 47, 116, 104, 111, 108, 101, 112, 105, 110, 108, 97, 119, 48, 53, 46, 90, 105, 103, 122, 97, 103, 66, 97, 99, 107, 32, 116, 104, 111, 108, 101, 112, 105, 110, 47, 116, 104, 111, 108, 101, 112, 105, 110, 108, 97, 119, 48, 54, 46, 66, 108, 111, 98, 82, 101, 97, 100, 115, 32, 116, 104, 111, 108, 101, 112, 105, 110, 47, 116, 104, 111, 108, 101, 112, 105, 110, 108, 97, 119, 48, 54, 46, 66, 108, 111, 98, 66, 97, 99, 107, 32, 116, 104, 111, 108, 101, 112, 105, 110, 47, 116, 104, 111, 108, 101, 112, 105, 110, 108, 97, 119, 50, 50, 46, 68, 101, 108, 116, 97, 87, 114, 105, 116, 101, 115, 32, 116, 104, 111, 108, 101, 112, 105, 110, 47, 116, 104, 111, 108, 101, 112, 105, 110, 108, 97, 119, 51, 50, 46, 73, 110, 100, 101, 120, 82, 101, 97, 100, 115, 32, 116, 104, 111, 108, 101, 112, 105, 110, 47, 116, 104, 111, 108, 101, 112, 105, 110, 108, 97, 119, 51, 50, 46, 73, 110, 100, 101, 120, 87, 114, 105, 116, 101, 115]
set_option maxRecDepth 100000 in
theorem init_is : Try.prog.initOrder = String.ofList (initSigns.map Char.ofNat) := by kernel_rfl
theorem init_list : Try.prog.initOrder.toList = initSigns.map Char.ofNat := by rw [init_is]; exact String.toList_ofList
theorem cut_word : ("cut").toList = [99, 117, 116].map Char.ofNat := by decide +kernel
theorem cut_head : (behindMainWord (wordsSigns (initSigns.map Char.ofNat))).head? = some ([99, 117, 116].map Char.ofNat) := by kernel_rfl
theorem behind_main : ∃ rest, behindMainWord (wordsSigns Try.prog.initOrder.toList) = "cut".toList :: rest := by
  have h := cut_head
  rw [init_list, cut_word]
  cases hb : behindMainWord (wordsSigns (initSigns.map Char.ofNat)) with
  | nil => rw [hb] at h; cases h
  | cons c r => rw [hb] at h; simp only [List.head?_cons, Option.some.injEq] at h; exact ⟨r, by rw [h]⟩
theorem lays_later : Try.prog.laysLater = false := by kernel_rfl
theorem bears_reflect : Try.prog.bearsReflect = false := by kernel_rfl
theorem door_fits : Try.prog.doorFits [] = true := by kernel_rfl
theorem may_enter : Try.prog.mayEnter = true := by
  obtain ⟨rest, h⟩ := behind_main
  exact mayEnter_of h lays_later bears_reflect door_fits
theorem lifts_final : false = Try.prog.liftsFinal := by
  obtain ⟨rest, h⟩ := behind_main
  exact liftsFinal_of h
theorem make_cut : Try.prog.make = some .cut := by
  obtain ⟨rest, h⟩ := behind_main
  exact make_of h
end Go.Proofs.Ytgphhganepjaiaa
