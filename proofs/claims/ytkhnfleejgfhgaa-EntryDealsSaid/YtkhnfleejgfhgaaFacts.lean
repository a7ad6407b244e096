/-
  Closed facts on the program of this seat: where each function leads, and what it names.
-/
import Derived.Test.YtkhnfleejgfhgaaClos
import Derived.Test.YtkhnfleejgfhgaaBase
namespace Go.Proofs.Ytkhnfleejgfhgaa
open Go.RowKit

def TELLS0 : List (List Nat × Bool × Bool × List Nat) := [([], true, false, []),
  ([], true, false, []),
  ([1], false, false, []),
  ([19, 20, 21, 22, 24, 23, 25, 26, 22, 20, 27, 20], false, false, []),
  ([28, 28, 20, 29, 29, 27, 30, 27, 31, 27, 20], false, false, []),
  ([32, 33, 34, 35, 36, 37, 23, 32], false, false, []),
  ([38, 39, 40, 41, 43, 42, 41, 40], false, false, []),
  ([40, 44, 45, 46, 47, 48, 40, 49, 39, 50, 23, 40], false, false, []),
  ([20, 44, 51, 52, 27, 48, 49, 20], false, false, []),
  ([38, 40, 53, 54, 55, 41, 39, 39, 56, 40, 44, 45, 50, 23, 56, 57, 49, 47, 40], false, false, []),
  ([59, 58, 60, 61, 62, 63, 23, 60, 60, 60], false, false, []),
  ([38, 40, 64, 65, 66, 66, 43, 67, 66, 42, 68, 47, 69, 70, 47, 42, 69, 68, 47, 40], false, false, []),
  ([60, 61, 53, 71, 55, 23, 72, 59, 58, 59, 58, 60, 63, 73, 59, 74, 23, 75, 60], false, false, []),
  ([60, 63, 76, 59, 74, 23, 73, 77, 44, 78, 79, 76, 59, 48, 60], false, false, []),
  ([61, 60, 63, 73, 60], false, false, []),
  ([28, 20, 53, 80, 55, 81, 82, 82, 83, 20, 44, 51, 84, 23, 83, 57, 49, 27, 20], false, false, []),
  ([32, 85, 86, 35, 32, 36, 87, 23, 32], false, false, []),
  ([32, 85, 32, 85, 85, 32], false, false, []),
  ([32, 88, 89, 90, 35, 36, 91, 92, 23, 35, 36, 32, 85, 33, 35, 37, 23, 35, 87, 23, 32], false, false, []),
  ([28], false, false, []),
  ([53, 80, 55, 23], false, false, []),
  ([25], false, false, []),
  ([70], false, false, []),
  ([], false, false, []),
  ([], false, false, []),
  ([], false, false, []),
  ([27], false, false, []),
  ([47, 23], false, false, []),
  ([38], false, false, []),
  ([70], false, false, []),
  ([69, 93], false, false, []),
  ([94, 30], false, false, []),
  ([91, 95, 23], false, false, []),
  ([44, 96, 97, 98, 99, 99, 100, 100, 99, 99, 90, 97, 101, 48, 102], false, false, []),
  ([103, 104, 105, 106, 106, 107, 107, 106, 106, 36, 104, 108], false, false, []),
  ([], false, false, []),
  ([109], false, false, []),
  ([110, 110], false, false, []),
  ([], false, false, []),
  ([111], false, false, [])]
set_option maxRecDepth 100000 in
theorem tells_eq0 : ((Try.prog.funcs.toList.drop 0).take 40).map (tellOf Try.prog) = TELLS0 := by kernel_rfl
def TELLS1 : List (List Nat × Bool × Bool × List Nat) := [([53, 54, 55, 23, 43, 112], false, false, []),
  ([113, 114, 115, 117], false, false, []),
  ([70, 118, 119, 117, 121, 117, 120], false, false, []),
  ([], false, false, []),
  ([], false, false, []),
  ([99, 49, 100, 97, 122, 57], false, false, []),
  ([106, 107, 104, 123], false, false, []),
  ([66], false, false, []),
  ([124], false, false, []),
  ([], false, false, []),
  ([110, 125], false, false, []),
  ([45, 99, 57], false, false, []),
  ([46, 106], false, false, []),
  ([], false, false, []),
  ([41, 126, 127, 128, 127, 129], false, false, []),
  ([130], false, false, []),
  ([41, 131, 128, 131, 132], false, false, []),
  ([102], false, false, []),
  ([109, 133], false, false, []),
  ([], false, false, []),
  ([61, 134, 75], false, false, []),
  ([75, 53, 71, 55], false, false, []),
  ([], false, false, []),
  ([44, 79, 48, 49], false, false, []),
  ([135, 117, 118], false, false, []),
  ([], false, false, []),
  ([112], false, false, []),
  ([], false, false, []),
  ([65], false, false, []),
  ([136, 137], false, false, []),
  ([118], false, false, []),
  ([72, 126, 139, 140, 142, 141], false, false, []),
  ([143, 144, 145], false, false, []),
  ([44, 146, 48, 102], false, false, []),
  ([110, 110, 148, 147], false, false, []),
  ([131], false, false, []),
  ([77, 105, 105, 149, 148, 104], false, false, []),
  ([103, 104, 103, 104], false, false, []),
  ([57, 97, 150, 97], false, false, []),
  ([146, 98, 145, 151, 49, 152, 57, 139, 142, 97], false, false, [])]
set_option maxRecDepth 100000 in
theorem tells_eq1 : ((Try.prog.funcs.toList.drop 40).take 40).map (tellOf Try.prog) = TELLS1 := by kernel_rfl
def TELLS2 : List (List Nat × Bool × Bool × List Nat) := [([81, 126, 54, 127], false, false, []),
  ([41], false, false, []),
  ([39], false, false, []),
  ([81, 56, 131], false, false, []),
  ([50, 110], false, false, []),
  ([153, 102, 95, 154, 102, 155, 124, 33, 102, 155], false, false, []),
  ([156, 156, 149, 148, 156, 149, 156, 157, 108, 34, 156], false, false, []),
  ([37, 158, 92], false, false, []),
  ([89, 159, 91], false, false, []),
  ([53, 90, 126, 140, 160, 127, 55], false, false, []),
  ([143, 161], false, false, []),
  ([95, 53, 162, 140, 142, 141, 163, 55], false, false, []),
  ([147, 148, 147], false, false, []),
  ([], false, false, []),
  ([], false, true, []),
  ([], false, false, []),
  ([78], false, false, []),
  ([57, 124], false, false, []),
  ([164, 143], false, false, []),
  ([165, 49, 100, 97], false, false, []),
  ([49, 96, 57, 49, 97, 49, 49, 97], false, false, []),
  ([150, 97], false, false, []),
  ([], false, false, []),
  ([104, 104], false, false, []),
  ([156], false, false, []),
  ([107, 109, 133, 104], false, false, []),
  ([166, 107, 104], false, false, []),
  ([167, 156], false, false, []),
  ([104], false, false, []),
  ([], false, false, []),
  ([110], false, false, []),
  ([], false, false, []),
  ([], false, false, []),
  ([], false, true, []),
  ([], false, false, []),
  ([116], false, false, []),
  ([168], false, false, []),
  ([], false, true, []),
  ([], false, false, []),
  ([], false, false, [])]
set_option maxRecDepth 100000 in
theorem tells_eq2 : ((Try.prog.funcs.toList.drop 80).take 40).map (tellOf Try.prog) = TELLS2 := by kernel_rfl
def TELLS3 : List (List Nat × Bool × Bool × List Nat) := [([169, 170], false, false, []),
  ([], false, false, []),
  ([99, 49, 100, 97, 57], false, false, []),
  ([106, 107, 104], false, false, []),
  ([], false, false, []),
  ([110, 171, 110], false, false, []),
  ([130], false, false, []),
  ([172, 140], false, false, []),
  ([], false, false, []),
  ([168, 126, 127, 127], false, false, []),
  ([], false, false, []),
  ([], false, false, []),
  ([168, 131, 131], false, false, []),
  ([], false, false, []),
  ([], false, false, []),
  ([], false, false, []),
  ([], false, true, []),
  ([138], false, false, []),
  ([], false, false, []),
  ([75, 53, 163, 140, 160, 145, 173, 55], false, false, []),
  ([130, 174, 126], false, false, []),
  ([162, 140], false, false, []),
  ([177, 176, 175], false, false, []),
  ([], false, false, []),
  ([], false, false, []),
  ([], false, false, []),
  ([49, 178, 97, 96, 49, 97, 57], false, false, []),
  ([], false, false, []),
  ([179], false, false, []),
  ([103], false, false, []),
  ([], false, false, []),
  ([164, 144], false, false, []),
  ([178], false, false, []),
  ([95, 124, 44, 95, 78, 180, 178, 142, 152, 152, 178, 124, 124, 124], false, false, []),
  ([44, 181, 48, 102, 49], false, false, []),
  ([124], false, false, []),
  ([], false, false, []),
  ([182, 149, 148, 104], false, false, []),
  ([183, 148, 147], false, false, []),
  ([184, 53, 185, 55], false, false, [])]
set_option maxRecDepth 100000 in
theorem tells_eq3 : ((Try.prog.funcs.toList.drop 120).take 40).map (tellOf Try.prog) = TELLS3 := by kernel_rfl
def TELLS4 : List (List Nat × Bool × Bool × List Nat) := [([143, 186], false, false, []),
  ([], false, false, []),
  ([], false, false, []),
  ([140], false, false, []),
  ([49, 100, 97, 57], false, true, []),
  ([49, 100, 97], false, false, []),
  ([107, 104], false, false, []),
  ([156, 156, 156], false, false, []),
  ([], false, false, []),
  ([], true, false, []),
  ([187], false, false, []),
  ([], false, false, []),
  ([], false, false, []),
  ([144, 186], false, false, []),
  ([], false, false, []),
  ([], false, false, []),
  ([188], false, false, []),
  ([], false, false, []),
  ([78], false, false, []),
  ([189], false, false, []),
  ([150], false, false, []),
  ([191, 190, 49, 152, 97, 192, 57], false, false, []),
  ([106, 103], false, false, []),
  ([110], false, false, []),
  ([193], false, false, []),
  ([126, 194, 142, 141], false, false, []),
  ([126, 127], false, false, []),
  ([195, 195, 195], false, false, []),
  ([196], false, false, []),
  ([], false, false, []),
  ([99, 178], false, false, []),
  ([], false, false, []),
  ([142], false, true, []),
  ([131], false, false, []),
  ([127, 140], false, false, []),
  ([], false, false, []),
  ([], false, false, []),
  ([], true, false, []),
  ([], true, false, []),
  ([], true, false, [])]
set_option maxRecDepth 100000 in
theorem tells_eq4 : ((Try.prog.funcs.toList.drop 160).take 40).map (tellOf Try.prog) = TELLS4 := by kernel_rfl
def TELLS5 : List (List Nat × Bool × Bool × List Nat) := [([], true, false, []),
  ([], true, false, []),
  ([], true, false, []),
  ([], true, false, []),
  ([], true, false, []),
  ([], true, false, []),
  ([], true, false, []),
  ([], true, false, []),
  ([], true, false, []),
  ([], true, false, []),
  ([], true, false, []),
  ([], true, false, []),
  ([], true, false, []),
  ([], true, false, [])]
set_option maxRecDepth 100000 in
theorem tells_eq5 : ((Try.prog.funcs.toList.drop 200).take 14).map (tellOf Try.prog) = TELLS5 := by kernel_rfl
def TELLS : List (List Nat × Bool × Bool × List Nat) := TELLS0 ++ TELLS1 ++ TELLS2 ++ TELLS3 ++ TELLS4 ++ TELLS5
theorem tells_size : Try.prog.funcs.toList.length = 214 := by kernel_rfl
theorem split_at {α : Type} (l : List α) (i n : Nat) : (l.drop i) = (l.drop i).take n ++ l.drop (i + n) := by
  rw [← List.drop_drop]; exact (List.take_append_drop n _).symm
theorem tells_eq : Try.prog.funcs.toList.map (tellOf Try.prog) = TELLS := by
  have h0 : Try.prog.funcs.toList = Try.prog.funcs.toList.drop 0 := rfl
  rw [h0]
  rw [split_at Try.prog.funcs.toList 0 40, List.map_append, tells_eq0]
  rw [split_at Try.prog.funcs.toList 40 40, List.map_append, tells_eq1]
  rw [split_at Try.prog.funcs.toList 80 40, List.map_append, tells_eq2]
  rw [split_at Try.prog.funcs.toList 120 40, List.map_append, tells_eq3]
  rw [split_at Try.prog.funcs.toList 160 40, List.map_append, tells_eq4]
  rw [split_at Try.prog.funcs.toList 200 14, List.map_append, tells_eq5]
  rw [List.drop_eq_nil_of_le (by rw [tells_size]; omega)]
  simp [TELLS]
def initSigns : List Nat := [104, 97, 114, 110, 101, 115, 115, 32, 49, 48, 53, 49, 100, 56, 51, 50, 99, 102, 52, 101, 101, 48, 57, 56, 100, 102, 97, 57, 57, 49, 49, 101, 100, 50, 51, 57, 56, 50, 53, 101, 101, 102, 48, 99, 101, 52, 52, 102, 50, 50, 49, 99, 97, 57, 50, 56, 54, 52, 57, 55, 99, 50, 52, 55, 52, 100, 102, 56, 54, 57, 52, 54, 32, 99, 117, 116, 32, 97, 116, 32, 116, 104, 111, 108, 101, 112, 105, 110, 47, 116, 104, 111, 108, 101, 112, 105, 110, 108, 97, 119, 50, 52, 46, 69, 110, 116, 114, 121, 68, 101, 97, 108, 115, 32, 116, 104, 111, 108, 101, 112, 105, 110, 47, 116, 104, 111, 108, 101, 112, 105, 110, 108, 97, 119, 50, 52, 46, 69, 110, 116, 114, 121, 67, 111, 112, 105, 101, 115, 32, 116, 104, 111, 108, 101, 112, 105, 110, 47, 116, 104, 111, 108, 101, 112, 105, 110, 108, 97, 119, 51, 51, 46, 70, 111, 111, 116, 101, 114, 82, 101, 97, 100, 115, 32, 116, 104, 111, 108, 101, 112, 105, 110, 47, 116, 104, 111, 108, 101, 112, 105, 110, 108, 97, 119, 50, 51, 46, 76, 105, 110, 107, 76, 97, 116, 101, 114, 32, 116, 104, 111, 108, 101, 112, 105, 110, 47, 116, 104, 111, 108, 101, 112, 105, 110, 108, 97, 119, 50, 51, 46, 76, 105, 110, 107, 82, 101, 97, 100, 115, 32, 116, 104, 111, 108, 101, 112, 105, 110, 47, 116, 104, 111, 108, 101, 112, 105, 110, 108, 97, 119, 50, 52, 46, 69, 110, 116, 114, 121, 82, 101, 97, 100, 115, 32, 116, 104, 111, 108, 101, 112, 105, 110, 47, 116, 104, 111, 108, 101, 112, 105, 110, 108, 97, 119, 50, 51, 46, 76, 105, 110, 107, 87, 114, 105, 116, 101, 115, 32, 116, 104, 111, 108, 101, 112, 105, 110, 47, 116, 104, 111, 108, 101, 112, 105, 110, 108, 97, 119, 51, 49, 46, 72, 101, 97, 100, 101, 114, 84, 101, 108, 108, 115, 32, 116, 104, 111, 108, 101, 112, 105, 110, 47, 116, 104, 111, 108, 101, 112, 105, 110, 108, 97, 119, 50, 51, 46, 76, 105, 110, 107, 67, 104, 97, 110, 103, 101, 115, 32, 116, 104, 111, 108, 101, 112, 105, 110, 47, 116, 104, 111, 108, 101, 112, 105, 110, 108, 97, 119, 51, 49, 46, 72, 101, 97, 100, 101, 114, 87, 114, 105, 116, 101, 115, 32, 116, 104, 111, 108, 101, 112, 105, 110, 47, 116, 104, 111, 108, 101, 112, 105, 110, 108, 97, 119, 51, 49, 46, 72, 101, 97, 100, 101, 114, 82, 101, 97, 100, 115, 32, 116, 104, 111, 108, 101, 112, 105, 110, 47, 116, 104, 111, 108, 101, 112, 105, 110, 108, 97, 119, 51, 49, 46, 72, 101, 97, 100, 101, 114, 67, 117, 116, 115, 32, 116, 104, 111, 108, 101, 112, 105, 110, 47, 116, 104, 111, 108, 101, 112, 105, 110, 108, 97, 119, 50, 52, 46, 69, 110, 116, 114, 121, 72, 101, 97, 100, 115, 32, 116, 104, 111, 108, 101, 112, 105, 110, 47, 116, 104, 111, 108, 101, 112, 105, 110, 108, 97, 119, 51, 51, 46, 70, 111, 111, 116, 101, 114, 70, 105, 110, 100, 115, 32, 116, 104, 111, 108, 101, 112, 105, 110, 47, 116, 104, 111, 108, 101, 112, 105, 110, 108, 97, 119, 51, 51, 46, 70, 111, 111, 116, 101, 114, 65, 108, 111, 110, 101, 32, 116, 104, 111, 108, 101, 112, 105, 110, 47, 116, 104, 111, 108, 101, 112, 105, 110, 108, 97, 119, 51, 51, 46, 70, 111, 111, 116, 101, 114, 87, 114, 105, 116, 101, 115]
set_option maxRecDepth 100000 in
theorem init_is : Try.prog.initOrder = String.ofList (initSigns.map Char.ofNat) := by kernel_rfl
theorem init_list : Try.prog.initOrder.toList = initSigns.map Char.ofNat := by rw [init_is]; exact String.toList_ofList
theorem cut_word : ("cut").toList = [99, 117, 116].map Char.ofNat := by decide +kernel
theorem cut_head : (behindMainWord (wordsSigns (initSigns.map Char.ofNat))).head? = some ([99, 117, 116].map Char.ofNat) := by kernel_rfl
theorem behind_main : ∃ rest, behindMainWord (wordsSigns Try.prog.initOrder.toList) = "cut".toList :: rest := by
  have h := cut_head
  rw [init_list, cut_word]
  cases hb : behindMainWord (wordsSigns (initSigns.map Char.ofNat)) with
  | nil => rw [hb] at h; cases h
  | cons c r => rw [hb] at h; simp only [List.head?_cons, Option.some.injEq] at h; exact ⟨r, by rw [h]⟩
theorem lays_later : Try.prog.laysLater = false := by kernel_rfl
theorem bears_reflect : Try.prog.bearsReflect = false := by kernel_rfl
theorem door_fits : Try.prog.doorFits [] = true := by kernel_rfl
theorem may_enter : Try.prog.mayEnter = true := by
  obtain ⟨rest, h⟩ := behind_main
  exact mayEnter_of h lays_later bears_reflect door_fits
theorem lifts_final : false = Try.prog.liftsFinal := by
  obtain ⟨rest, h⟩ := behind_main
  exact liftsFinal_of h
theorem make_cut : Try.prog.make = some .cut := by
  obtain ⟨rest, h⟩ := behind_main
  exact make_of h
end Go.Proofs.Ytkhnfleejgfhgaa
