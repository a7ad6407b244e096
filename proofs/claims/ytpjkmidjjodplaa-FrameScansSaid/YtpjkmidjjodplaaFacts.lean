/-
  Closed facts on the program of this seat: where each function leads, and what it names.
-/
import Derived.Test.YtpjkmidjjodplaaClos
import Derived.Test.YtpjkmidjjodplaaBase
namespace Go.Proofs.Ytpjkmidjjodplaa
open Go.RowKit

def TELLS0 : List (List Nat × Bool × Bool × List Nat) := [([], true, false, []),
  ([], true, false, []),
  ([1], false, false, []),
  ([17, 18, 19, 20, 21, 18, 22, 18], false, false, []),
  ([17, 18, 23, 24, 20, 18, 18, 22, 25, 26, 18], false, false, []),
  ([27, 28, 29, 30, 31, 32, 33, 34, 21, 21, 35, 35, 36, 27], false, false, []),
  ([17, 17, 37, 38, 39, 40, 22, 29, 41, 32, 39, 42, 21, 39, 22, 43, 44, 45, 46, 45, 37, 42, 21, 37], false, false, []),
  ([17, 18, 20, 18, 42, 47, 19, 42, 47, 21, 21, 21, 18, 42, 47, 18], false, false, []),
  ([18, 47, 48, 49, 50, 21, 18], false, false, []),
  ([37, 51, 52, 53, 54, 55, 46, 46, 56, 57, 53, 58, 59, 22, 26, 60, 37, 60, 59, 56, 56, 37, 60, 56, 37], false, false, []),
  ([17, 37, 43, 37, 51, 46, 37], false, false, []),
  ([37, 51, 37, 39, 43, 21, 37], false, false, []),
  ([27, 28, 61, 21, 61, 61, 27, 28, 21, 27], false, false, []),
  ([27, 28, 62, 21, 61, 27, 27], false, false, []),
  ([27, 53, 63, 64, 61, 21, 56, 21, 57, 65, 66, 27], false, false, []),
  ([27, 67, 68, 69, 68, 64, 68, 27], false, false, []),
  ([27, 27, 34, 68, 27, 34, 69, 27], false, false, []),
  ([], false, false, []),
  ([19, 21], false, false, []),
  ([70, 71, 72], false, false, []),
  ([39, 73, 22, 73, 73, 74], false, false, []),
  ([], false, false, []),
  ([25, 26], false, false, []),
  ([75], false, false, []),
  ([75], false, false, []),
  ([], false, false, []),
  ([], false, false, []),
  ([28, 21], false, false, []),
  ([35, 29, 31, 32], false, false, []),
  ([], false, false, []),
  ([76, 77, 78], false, false, []),
  ([78, 79, 81, 80], false, false, []),
  ([76], false, false, []),
  ([33], false, false, []),
  ([82, 84, 83], false, false, []),
  ([85], false, false, []),
  ([35], false, false, []),
  ([43, 21], false, false, []),
  ([], false, false, []),
  ([25, 26], false, false, [])]
set_option maxRecDepth 100000 in
theorem tells_eq0 : ((Try.prog.funcs.toList.drop 0).take 40).map (tellOf Try.prog) = TELLS0 := by kernel_rfl
def TELLS1 : List (List Nat × Bool × Bool × List Nat) := [([38], false, false, []),
  ([38, 78, 86, 30, 86, 86], false, false, []),
  ([25, 33, 33, 33], false, false, []),
  ([87, 29, 41, 32], false, false, []),
  ([40], false, false, []),
  ([88, 89], false, false, []),
  ([21], false, false, []),
  ([53, 91, 60, 57, 58, 92, 93, 57, 59, 92, 60, 72, 56, 94], false, false, []),
  ([95, 96, 96, 73, 55, 73, 74], false, false, []),
  ([53, 60, 91, 57, 54, 40, 92, 56, 94], false, false, []),
  ([55, 22, 73], false, false, []),
  ([53, 60, 91, 54, 56, 94], false, false, []),
  ([55, 73], false, false, []),
  ([], false, false, []),
  ([58, 59, 93, 60], false, false, []),
  ([95, 97, 98, 97, 95, 97], false, false, []),
  ([71], false, false, []),
  ([], false, false, []),
  ([57, 99, 60, 92], false, false, []),
  ([57, 99, 92, 60], false, false, []),
  ([94], false, false, []),
  ([53, 63, 56, 94, 57], false, false, []),
  ([], false, false, []),
  ([101, 100, 57, 102, 92, 103, 60], false, false, []),
  ([104, 105, 84, 97], false, false, []),
  ([53, 101, 106, 60, 35], false, false, []),
  ([107, 33], false, false, []),
  ([65, 61, 94], false, false, []),
  ([64], false, false, []),
  ([67, 65], false, false, []),
  ([38, 40], false, false, []),
  ([], false, false, []),
  ([], false, false, []),
  ([], false, false, []),
  ([], false, false, []),
  ([70, 40], false, false, []),
  ([], false, false, []),
  ([], false, false, []),
  ([76], false, false, []),
  ([86, 30], false, false, [])]
set_option maxRecDepth 100000 in
theorem tells_eq1 : ((Try.prog.funcs.toList.drop 40).take 40).map (tellOf Try.prog) = TELLS1 := by kernel_rfl
def TELLS2 : List (List Nat × Bool × Bool × List Nat) := [([108, 30], false, false, []),
  ([111, 110, 109], false, false, []),
  ([33], false, false, []),
  ([], false, false, []),
  ([112], false, false, []),
  ([113], false, false, []),
  ([114, 30], false, false, []),
  ([113], false, false, []),
  ([], false, true, []),
  ([90], false, false, []),
  ([], false, false, []),
  ([], false, false, []),
  ([60, 71], false, false, []),
  ([115], false, false, []),
  ([], false, false, []),
  ([116, 73], false, false, []),
  ([], false, false, []),
  ([73], false, false, []),
  ([97, 97], false, false, []),
  ([57, 117, 60, 57, 92, 57, 57, 92], false, false, []),
  ([106, 93], false, false, []),
  ([], false, false, []),
  ([93], false, false, []),
  ([81], false, true, []),
  ([107, 98], false, false, []),
  ([98], false, false, []),
  ([118, 57, 99, 92], false, false, []),
  ([119, 95, 97], false, false, []),
  ([], false, false, []),
  ([], false, false, []),
  ([120], false, false, []),
  ([], false, false, []),
  ([121], false, false, []),
  ([], false, false, []),
  ([], false, false, []),
  ([60, 92, 91, 92], false, false, []),
  ([73, 73, 73], false, false, []),
  ([115], false, false, []),
  ([57, 99, 92], false, false, []),
  ([95, 97], false, false, [])]
set_option maxRecDepth 100000 in
theorem tells_eq2 : ((Try.prog.funcs.toList.drop 80).take 40).map (tellOf Try.prog) = TELLS2 := by kernel_rfl
def TELLS3 : List (List Nat × Bool × Bool × List Nat) := [([122], false, false, []),
  ([], false, false, []),
  ([], false, false, []),
  ([], true, false, []),
  ([], true, false, []),
  ([], true, false, []),
  ([], true, false, []),
  ([], true, false, []),
  ([], true, false, []),
  ([], true, false, []),
  ([], true, false, []),
  ([], true, false, []),
  ([], true, false, []),
  ([], true, false, []),
  ([], true, false, []),
  ([], true, false, []),
  ([], true, false, []),
  ([], true, false, []),
  ([], true, false, []),
  ([], true, false, []),
  ([], true, false, [])]
set_option maxRecDepth 100000 in
theorem tells_eq3 : ((Try.prog.funcs.toList.drop 120).take 21).map (tellOf Try.prog) = TELLS3 := by kernel_rfl
def TELLS : List (List Nat × Bool × Bool × List Nat) := TELLS0 ++ TELLS1 ++ TELLS2 ++ TELLS3
theorem tells_size : Try.prog.funcs.toList.length = 141 := by kernel_rfl
theorem split_at {α : Type} (l : List α) (i n : Nat) : (l.drop i) = (l.drop i).take n ++ l.drop (i + n) := by
  rw [← List.drop_drop]; exact (List.take_append_drop n _).symm
theorem tells_eq : Try.prog.funcs.toList.map (tellOf Try.prog) = TELLS := by
  have h0 : Try.prog.funcs.toList = Try.prog.funcs.toList.drop 0 := rfl
  rw [h0]
  rw [split_at Try.prog.funcs.toList 0 40, List.map_append, tells_eq0]
  rw [split_at Try.prog.funcs.toList 40 40, List.map_append, tells_eq1]
  rw [split_at Try.prog.funcs.toList 80 40, List.map_append, tells_eq2]
  rw [split_at Try.prog.funcs.toList 120 21, List.map_append, tells_eq3]
  rw [List.drop_eq_nil_of_le (by rw [tells_size]; omega)]
  simp [TELLS]
def initSigns : List Nat := [104, 97, 114, 110, 101, 115, 115, 32, 98, 99, 101, 102, 100, 53, 100, 55, 54, 97, 57, 57, 98, 57, 98, 102, 56, 102, 98, 48, 99, 52, 49, 99, 100, 52, 98, 55, 49, 97, 49, 100, 51, 51, 56, 56, 99, 101, 99, 57, 100, 50, 98, 101, 100, 48, 52, 100, 54, 51, 102, 101, 54, 57, 51, 52, 53, 102, 56, 57, 101, 101, 99, 57, 32, 99, 117, 116, 32, 97, 116, 32, 116, 104, 111, 108, 101, 112, 105, 110, 47, 116, 104, 111, 108, 101, 112, 105, 110, 108, 97, 119, 49, 50, 46, 69, 120, 112, 97, 110, 100, 84, 111, 107, 101, 110, 115, 32, 116, 104, 111, 108, 101, 112, 105, 110, 47, 116, 104, 111, 108, 101, 112, 105, 110, 108, 97, 119, 49, 50, 46, 69, 120, 112, 97, 110, 100, 79, 114, 105, 103, 105, 110, 115, 32, 116, 104, 111, 108, 101, 112, 105, 110, 47, 116, 104, 111, 108, 101, 112, 105, 110, 108, 97, 119, 48, 56, 46, 70, 114, 97, 109, 101, 87, 114, 105, 116, 101, 115, 32, 116, 104, 111, 108, 101, 112, 105, 110, 47, 116, 104, 111, 108, 101, 112, 105, 110, 108, 97, 119, 49, 49, 46, 84, 111, 107, 101, 110, 87, 114, 105, 116, 101, 115, 32, 116, 104, 111, 108, 101, 112, 105, 110, 47, 116, 104, 111, 108, 101, 112, 105, 110, 108, 97, 119, 49, 50, 46, 69, 120, 112, 97, 110, 100, 66, 111, 117, 110, 100, 32, 116, 104, 111, 108, 101, 112, 105, 110, 47, 116, 104, 111, 108, 101, 112, 105, 110, 108, 97, 119, 49, 50, 46, 69, 120, 112, 97, 110, 100, 66, 121, 116, 101, 115, 32, 116, 104, 111, 108, 101, 112, 105, 110, 47, 116, 104, 111, 108, 101, 112, 105, 110, 108, 97, 119, 49, 49, 46, 84, 111, 107, 101, 110, 82, 101, 97, 100, 115, 32, 116, 104, 111, 108, 101, 112, 105, 110, 47, 116, 104, 111, 108, 101, 112, 105, 110, 108, 97, 119, 49, 49, 46, 84, 111, 107, 101, 110, 66, 97, 99, 107, 32, 116, 104, 111, 108, 101, 112, 105, 110, 47, 116, 104, 111, 108, 101, 112, 105, 110, 108, 97, 119, 49, 49, 46, 84, 111, 107, 101, 110, 79, 110, 99, 101, 32, 116, 104, 111, 108, 101, 112, 105, 110, 47, 116, 104, 111, 108, 101, 112, 105, 110, 108, 97, 119, 48, 56, 46, 70, 114, 97, 109, 101, 66, 97, 99, 107, 32, 116, 104, 111, 108, 101, 112, 105, 110, 47, 116, 104, 111, 108, 101, 112, 105, 110, 108, 97, 119, 48, 56, 46, 70, 114, 97, 109, 101, 84, 101, 108, 108, 115, 32, 116, 104, 111, 108, 101, 112, 105, 110, 47, 116, 104, 111, 108, 101, 112, 105, 110, 108, 97, 119, 48, 56, 46, 70, 114, 97, 109, 101, 82, 101, 97, 100, 115, 32, 116, 104, 111, 108, 101, 112, 105, 110, 47, 116, 104, 111, 108, 101, 112, 105, 110, 108, 97, 119, 48, 56, 46, 70, 114, 97, 109, 101, 83, 99, 97, 110, 115, 32, 116, 104, 111, 108, 101, 112, 105, 110, 47, 116, 104, 111, 108, 101, 112, 105, 110, 108, 97, 119, 48, 56, 46, 70, 114, 97, 109, 101, 70, 105, 110, 100, 115]
set_option maxRecDepth 100000 in
theorem init_is : Try.prog.initOrder = String.ofList (initSigns.map Char.ofNat) := by kernel_rfl
theorem init_list : Try.prog.initOrder.toList = initSigns.map Char.ofNat := by rw [init_is]; exact String.toList_ofList
theorem cut_word : ("cut").toList = [99, 117, 116].map Char.ofNat := by decide +kernel
theorem cut_head : (behindMainWord (wordsSigns (initSigns.map Char.ofNat))).head? = some ([99, 117, 116].map Char.ofNat) := by kernel_rfl
theorem behind_main : ∃ rest, behindMainWord (wordsSigns Try.prog.initOrder.toList) = "cut".toList :: rest := by
  have h := cut_head
  rw [init_list, cut_word]
  cases hb : behindMainWord (wordsSigns (initSigns.map Char.ofNat)) with
  | nil => rw [hb] at h; cases h
  | cons c r => rw [hb] at h; simp only [List.head?_cons, Option.some.injEq] at h; exact ⟨r, by rw [h]⟩
theorem lays_later : Try.prog.laysLater = false := by kernel_rfl
theorem bears_reflect : Try.prog.bearsReflect = false := by kernel_rfl
theorem door_fits : Try.prog.doorFits [] = true := by kernel_rfl
theorem may_enter : Try.prog.mayEnter = true := by
  obtain ⟨rest, h⟩ := behind_main
  exact mayEnter_of h lays_later bears_reflect door_fits
theorem lifts_final : false = Try.prog.liftsFinal := by
  obtain ⟨rest, h⟩ := behind_main
  exact liftsFinal_of h
theorem make_cut : Try.prog.make = some .cut := by
  obtain ⟨rest, h⟩ := behind_main
  exact make_of h
end Go.Proofs.Ytpjkmidjjodplaa
