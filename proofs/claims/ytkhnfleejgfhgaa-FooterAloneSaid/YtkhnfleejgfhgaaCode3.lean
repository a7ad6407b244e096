/-
  The codes of the seat's functions over abstract values, each shown to be its function's own (by program: wip/tools/codes.py).
-/
import Derived.Test.YtkhnfleejgfhgaaA2
import Derived.Test.YtkhnfleejgfhgaaProg
import Derived.KernelRfl
namespace Go.Proofs.Ytkhnfleejgfhgaa
def c17 : C := .seq
  (.reg [(none, (.mov (.const (.bool .false)), .some 4))] []) (.seq (.seq
  (.reg [(none, (.mov (.tmp 0), .some 14)), (none, (.len .false (.tmp 14), .some 15)), (none, (.bin .gtr (.tmp 15) (.const (.int .i64 300)), .some 16)), (none, (.mov (.tmp 16), .some 17)), (.some (17, .false), (.mov (.tmp 1), .some 18)), (.some (17, .false), (.len .false (.tmp 18), .some 19)), (.some (17, .false), (.bin .gtr (.tmp 19) (.const (.int .i64 300)), .some 20)), (none, (.pick (.tmp 17) (.const (.bool .true)) (.tmp 20), .some 21))] []) (.cond (.tmp 21) (.seq
  (.reg [(none, (.call (.func 32) [], .some 22)), (none, (.mov (.tmp 22), .some 4))] []) .ret) .skip)) (.seq
  (.reg [(none, (.mov (.tmp 0), .some 24)), (none, (.call (.func 85) [.tmp 24], .some 25)), (none, (.mov (.tmp 25), .some 23)), (none, (.ext (.tmp 23) 0, .some 26)), (none, (.ext (.tmp 23) 1, .some 27)), (none, (.ext (.tmp 23) 2, .some 28)), (none, (.new [.int .u64 0, .int .i64 0, .int .i64 0, .int .u64 0, .int .u64 0, .int .i64 0, .int .i64 0], .some 5)), (none, (.new [.int .i64 0, .int .i64 0], .some 7)), (none, (.store 7 (.tmp 5) (.tmp 26), none)), (none, (.mov (.tmp 27), .some 6)), (none, (.store 2 (.tmp 7) (.tmp 28), none))] []) (.seq (.seq
  (.reg [(none, (.fadr 0 (.tmp 7), .some 29)), (none, (.load none (.tmp 29), .some 30)), (none, (.bin .neq (.tmp 30) (.const (.int .i64 0)), .some 31))] []) (.cond (.tmp 31) (.seq
  (.reg [(none, (.call (.func 32) [], .some 32)), (none, (.mov (.tmp 32), .some 4))] []) .ret) .skip)) (.seq
  (.reg [(none, (.bsl 1 [], .some 34)), (none, (.mov (.tmp 1), .some 35)), (none, (.app 1 1 (.tmp 34) (.tmp 35), .some 36)), (none, (.mov (.tmp 0), .some 37)), (none, (.app 1 1 (.tmp 36) (.tmp 37), .some 38)), (none, (.call (.func 85) [.tmp 38], .some 39)), (none, (.mov (.tmp 39), .some 33)), (none, (.ext (.tmp 33) 0, .some 40)), (none, (.ext (.tmp 33) 1, .some 41)), (none, (.ext (.tmp 33) 2, .some 42)), (none, (.new [.int .u64 0, .int .i64 0, .int .i64 0, .int .u64 0, .int .u64 0, .int .i64 0, .int .i64 0], .some 8)), (none, (.new [.int .i64 0, .int .i64 0], .some 10)), (none, (.store 7 (.tmp 8) (.tmp 40), none)), (none, (.mov (.tmp 41), .some 9)), (none, (.store 2 (.tmp 10) (.tmp 42), none))] []) (.seq
  (.reg [(none, (.mov (.tmp 0), .some 44)), (none, (.mov (.tmp 6), .some 45)), (none, (.slice 1 (.tmp 44) (.some (.tmp 45)) none none, .some 46)), (none, (.call (.func 85) [.tmp 46], .some 47)), (none, (.mov (.tmp 47), .some 43)), (none, (.ext (.tmp 43) 0, .some 48)), (none, (.ext (.tmp 43) 1, .some 49)), (none, (.ext (.tmp 43) 2, .some 50)), (none, (.new [.int .u64 0, .int .i64 0, .int .i64 0, .int .u64 0, .int .u64 0, .int .i64 0, .int .i64 0], .some 11)), (none, (.new [.int .i64 0, .int .i64 0], .some 13)), (none, (.store 7 (.tmp 11) (.tmp 48), none)), (none, (.mov (.tmp 49), .some 12)), (none, (.store 2 (.tmp 13) (.tmp 50), none))] []) (.seq
  (.reg [(none, (.load (.some 7) (.tmp 5), .some 51)), (none, (.load (.some 7) (.tmp 8), .some 52)), (none, (.eqa .false 7 (.tmp 51) (.tmp 52), .some 53)), (none, (.mov (.tmp 53), .some 54)), (.some (54, .true), (.load (.some 7) (.tmp 5), .some 55)), (.some (54, .true), (.load (.some 7) (.tmp 11), .some 56)), (.some (54, .true), (.eqa .false 7 (.tmp 55) (.tmp 56), .some 57)), (none, (.pick (.tmp 54) (.tmp 57) (.const (.bool .false)), .some 58)), (none, (.mov (.tmp 58), .some 59)), (.some (59, .true), (.mov (.tmp 9), .some 60)), (.some (59, .true), (.mov (.tmp 6), .some 61)), (.some (59, .true), (.mov (.tmp 1), .some 62)), (.some (59, .true), (.len .false (.tmp 62), .some 63)), (.some (59, .true), (.bin .add (.tmp 61) (.tmp 63), .some 64)), (.some (59, .true), (.bin .eql (.tmp 60) (.tmp 64), .some 65)), (none, (.pick (.tmp 59) (.tmp 65) (.const (.bool .false)), .some 66)), (none, (.mov (.tmp 66), .some 67)), (.some (67, .true), (.mov (.tmp 12), .some 68)), (.some (67, .true), (.bin .eql (.tmp 68) (.const (.int .i64 0)), .some 69)), (none, (.pick (.tmp 67) (.tmp 69) (.const (.bool .false)), .some 70)), (none, (.mov (.tmp 70), .some 71)), (.some (71, .true), (.fadr 0 (.tmp 10), .some 72)), (.some (71, .true), (.load none (.tmp 72), .some 73)), (.some (71, .true), (.bin .eql (.tmp 73) (.const (.int .i64 0)), .some 74)), (none, (.pick (.tmp 71) (.tmp 74) (.const (.bool .false)), .some 75)), (none, (.mov (.tmp 75), .some 76)), (.some (76, .true), (.fadr 0 (.tmp 13), .some 77)), (.some (76, .true), (.load none (.tmp 77), .some 78)), (.some (76, .true), (.bin .eql (.tmp 78) (.const (.int .i64 0)), .some 79)), (none, (.pick (.tmp 76) (.tmp 79) (.const (.bool .false)), .some 80)), (none, (.mov (.tmp 80), .some 81)), (.some (81, .true), (.call (.func 32) [], .some 82)), (none, (.pick (.tmp 81) (.tmp 82) (.const (.bool .false)), .some 83)), (none, (.mov (.tmp 83), .some 4))] []) .ret))))))
theorem b17 : Try.f17.body.bind (compC Try.prog) = some c17 := by kernel_rfl
theorem r17 : compR Try.prog Try.f17 = .some [.tmp 4] := by kernel_rfl
theorem n17 : (Try.f17.name == "runtime.NumGoroutine") = false := by kernel_rfl
def c32 : C := .seq
  (.reg [(none, (.mov (.const (.bool .false)), .some 0))] []) (.seq
  (.reg [(none, (.call (.func 91) [.const (.int .i64 9)], .some 2)), (none, (.mov (.tmp 2), .some 1))] []) (.seq
  (.reg [(none, (.mov (.tmp 1), .some 3)), (none, (.len .false (.tmp 3), .some 4)), (none, (.bin .eql (.tmp 4) (.const (.int .i64 12)), .some 5)), (none, (.mov (.tmp 5), .some 6)), (.some (6, .true), (.call (.func 95) [], .some 7)), (.some (6, .true), (.bin .eql (.tmp 7) (.const (.int .i64 12)), .some 8)), (none, (.pick (.tmp 6) (.tmp 8) (.const (.bool .false)), .some 9)), (none, (.mov (.tmp 9), .some 10)), (.some (10, .true), (.mov (.tmp 1), .some 11)), (.some (10, .true), (.slice 1 (.tmp 11) none (.some (.const (.int .i64 4))) none, .some 12)), (.some (10, .true), (.bsl 1 [.const (.int .u8 9), .const (.int .u8 0), .const (.int .u8 0), .const (.int .u8 0)], .some 13)), (.some (10, .true), (.call (.func 23) [.tmp 12, .tmp 13], .some 14)), (none, (.pick (.tmp 10) (.tmp 14) (.const (.bool .false)), .some 15)), (none, (.mov (.tmp 15), .some 16)), (.some (16, .true), (.mov (.tmp 1), .some 17)), (.some (16, .true), (.slice 1 (.tmp 17) (.some (.const (.int .i64 8))) none none, .some 18)), (.some (16, .true), (.b2s (.tmp 18), .some 19)), (.some (16, .true), (.bin .eql (.tmp 19) (.const (.string (.mk (#[76, 79, 72, 84])))), .some 20)), (none, (.pick (.tmp 16) (.tmp 20) (.const (.bool .false)), .some 21)), (none, (.mov (.tmp 21), .some 22)), (none, (.pick (.tmp 22) (.const (.bool .true)) (.const (.bool .false)), .some 23)), (none, (.mov (.tmp 23), .some 0))] []) .ret))
theorem b32 : Try.f32.body.bind (compC Try.prog) = some c32 := by kernel_rfl
theorem r32 : compR Try.prog Try.f32 = .some [.tmp 0] := by kernel_rfl
theorem n32 : (Try.f32.name == "runtime.NumGoroutine") = false := by kernel_rfl
def c33 : C := .seq
  (.reg [(none, (.new [.int .u64 0, .int .i64 0, .int .i64 0, .int .u64 0, .int .u64 0, .int .i64 0, .int .i64 0], .some 2)), (none, (.new [.int .i64 0, .int .i64 0], .some 3))] []) (.seq
  (.reg [(none, (.mov (.tmp 0), .some 7)), (none, (.call (.func 44) [.tmp 7], .some 8)), (none, (.mov (.tmp 8), .some 4))] []) (.seq (.seq
  (.reg [(none, (.mov (.tmp 4), .some 9)), (none, (.call (.func 96) [.tmp 9], .some 10)), (none, (.bin .neq (.tmp 10) (.const (.int .u8 3)), .some 11))] []) (.cond (.tmp 11)
  (.reg [(none, (.mov (.tmp 4), .some 12)), (none, (.call (.func 97) [.tmp 12, .const (.int .i64 7), .const (.int .i64 0)], .some 13))] []) .skip)) (.seq
  (.reg [(none, (.mov (.tmp 4), .some 14)), (none, (.call (.func 98) [.tmp 14], .some 15)), (none, (.build [.int .u64 0, .int .i64 0, .int .i64 0, .int .u64 0, .int .u64 0, .int .i64 0, .int .i64 0] [(0, (1, .tmp 15))], .some 16)), (none, (.new [.int .u64 0, .int .i64 0, .int .i64 0, .int .u64 0, .int .u64 0, .int .i64 0, .int .i64 0], .some 5)), (none, (.store 7 (.tmp 5) (.tmp 16), none))] []) (.seq
  (.reg [(none, (.mov (.tmp 4), .some 17)), (none, (.call (.func 99) [.tmp 17, .const (.int .i64 65536)], .some 18)), (none, (.mov (.tmp 4), .some 19)), (none, (.call (.func 99) [.tmp 19, .const (.int .i64 65536)], .some 20)), (none, (.fadr 1 (.tmp 5), .some 21)), (none, (.store 1 (.tmp 21) (.tmp 18), none)), (none, (.fadr 2 (.tmp 5), .some 22)), (none, (.store 1 (.tmp 22) (.tmp 20), none))] []) (.seq
  (.reg [(none, (.mov (.tmp 4), .some 23)), (none, (.call (.func 100) [.tmp 23], .some 24)), (none, (.mov (.tmp 4), .some 25)), (none, (.call (.func 100) [.tmp 25], .some 26)), (none, (.fadr 3 (.tmp 5), .some 27)), (none, (.store 1 (.tmp 27) (.tmp 24), none)), (none, (.fadr 4 (.tmp 5), .some 28)), (none, (.store 1 (.tmp 28) (.tmp 26), none))] []) (.seq
  (.reg [(none, (.mov (.tmp 4), .some 29)), (none, (.call (.func 99) [.tmp 29, .const (.int .i64 1099511627776)], .some 30)), (none, (.mov (.tmp 4), .some 31)), (none, (.call (.func 99) [.tmp 31, .const (.int .i64 1099511627776)], .some 32)), (none, (.fadr 5 (.tmp 5), .some 33)), (none, (.store 1 (.tmp 33) (.tmp 30), none)), (none, (.fadr 6 (.tmp 5), .some 34)), (none, (.store 1 (.tmp 34) (.tmp 32), none))] []) (.seq (.seq
  (.reg [(none, (.load (.some 7) (.tmp 5), .some 35)), (none, (.call (.func 90) [.tmp 35], .some 36)), (none, (.un .not (.tmp 36), .some 37))] []) (.cond (.tmp 37)
  (.reg [(none, (.mov (.tmp 4), .some 38)), (none, (.call (.func 97) [.tmp 38, .const (.int .i64 3), .const (.int .i64 0)], .some 39))] []) .skip)) (.seq
  (.reg [(none, (.mov (.tmp 4), .some 40)), (none, (.call (.func 101) [.tmp 40], .some 41))] []) (.seq (.seq
  (.reg [(none, (.mov (.tmp 4), .some 42)), (none, (.call (.func 48) [.tmp 42], .some 43)), (none, (.new [.int .i64 0, .int .i64 0], .some 6)), (none, (.store 2 (.tmp 6) (.tmp 43), none))] []) (.seq
  (.reg [(none, (.load (.some 2) (.tmp 6), .some 44)), (none, (.call (.func 102) [.tmp 44], .some 45)), (none, (.un .not (.tmp 45), .some 46))] []) (.cond (.tmp 46) (.seq
  (.reg [(none, (.build [.int .u64 0, .int .i64 0, .int .i64 0, .int .u64 0, .int .u64 0, .int .i64 0, .int .i64 0] [], .some 47)), (none, (.load (.some 2) (.tmp 6), .some 48)), (none, (.store 7 (.tmp 2) (.tmp 47), none)), (none, (.store 2 (.tmp 3) (.tmp 48), none))] [(1, 2)]) .ret) .skip))) (.seq
  (.reg [(none, (.load (.some 7) (.tmp 5), .some 49)), (none, (.build [.int .i64 0, .int .i64 0] [], .some 50)), (none, (.store 7 (.tmp 2) (.tmp 49), none)), (none, (.store 2 (.tmp 3) (.tmp 50), none))] []) .ret))))))))))
theorem b33 : Try.f33.body.bind (compC Try.prog) = some c33 := by kernel_rfl
theorem r33 : compR Try.prog Try.f33 = .some [.cell 2 (.some 7), .cell 3 (.some 2)] := by kernel_rfl
theorem n33 : (Try.f33.name == "runtime.NumGoroutine") = false := by kernel_rfl
def c36 : C := .seq
  (.reg [(none, (.box (.tmp 0), .some 1)), (none, (.mov (.const (.bool .false)), .some 2))] []) (.seq (.seq
  (.reg [(none, (.fadr 0 (.tmp 1), .some 3)), (none, (.load none (.tmp 3), .some 4)), (none, (.call (.func 109) [.tmp 4], .some 5)), (none, (.un .not (.tmp 5), .some 6)), (none, (.mov (.tmp 6), .some 7)), (.some (7, .false), (.fadr 1 (.tmp 1), .some 8)), (.some (7, .false), (.load none (.tmp 8), .some 9)), (.some (7, .false), (.bin .lss (.tmp 9) (.const (.int .i64 0)), .some 10)), (none, (.pick (.tmp 7) (.const (.bool .true)) (.tmp 10), .some 11)), (none, (.mov (.tmp 11), .some 12)), (.some (12, .false), (.fadr 1 (.tmp 1), .some 13)), (.some (12, .false), (.load none (.tmp 13), .some 14)), (.some (12, .false), (.bin .gtr (.tmp 14) (.const (.int .i64 16)), .some 15)), (none, (.pick (.tmp 12) (.const (.bool .true)) (.tmp 15), .some 16)), (none, (.mov (.tmp 16), .some 17)), (.some (17, .false), (.fadr 2 (.tmp 1), .some 18)), (.some (17, .false), (.load none (.tmp 18), .some 19)), (.some (17, .false), (.fadr 1 (.tmp 1), .some 20)), (.some (17, .false), (.load none (.tmp 20), .some 21)), (.some (17, .false), (.bin .lss (.tmp 19) (.tmp 21), .some 22)), (none, (.pick (.tmp 17) (.const (.bool .true)) (.tmp 22), .some 23)), (none, (.mov (.tmp 23), .some 24)), (.some (24, .false), (.fadr 2 (.tmp 1), .some 25)), (.some (24, .false), (.load none (.tmp 25), .some 26)), (.some (24, .false), (.fadr 1 (.tmp 1), .some 27)), (.some (24, .false), (.load none (.tmp 27), .some 28)), (.some (24, .false), (.bin .mul (.const (.int .i64 16)) (.tmp 28), .some 29)), (.some (24, .false), (.bin .gtr (.tmp 26) (.tmp 29), .some 30)), (none, (.pick (.tmp 24) (.const (.bool .true)) (.tmp 30), .some 31))] []) (.cond (.tmp 31) (.seq
  (.reg [(none, (.mov (.const (.bool .false)), .some 2))] []) .ret) .skip)) (.seq (.seq
  (.reg [(none, (.fadr 5 (.tmp 1), .some 32)), (none, (.load none (.tmp 32), .some 33)), (none, (.bin .lss (.tmp 33) (.const (.int .i64 1)), .some 34)), (none, (.mov (.tmp 34), .some 35)), (.some (35, .false), (.fadr 5 (.tmp 1), .some 36)), (.some (35, .false), (.load none (.tmp 36), .some 37)), (.some (35, .false), (.bin .gtr (.tmp 37) (.const (.int .i64 1099511627775)), .some 38)), (none, (.pick (.tmp 35) (.const (.bool .true)) (.tmp 38), .some 39)), (none, (.mov (.tmp 39), .some 40)), (.some (40, .false), (.fadr 6 (.tmp 1), .some 41)), (.some (40, .false), (.load none (.tmp 41), .some 42)), (.some (40, .false), (.bin .lss (.tmp 42) (.const (.int .i64 1)), .some 43)), (none, (.pick (.tmp 40) (.const (.bool .true)) (.tmp 43), .some 44)), (none, (.mov (.tmp 44), .some 45)), (.some (45, .false), (.fadr 6 (.tmp 1), .some 46)), (.some (45, .false), (.load none (.tmp 46), .some 47)), (.some (45, .false), (.bin .gtr (.tmp 47) (.const (.int .i64 2097152)), .some 48)), (none, (.pick (.tmp 45) (.const (.bool .true)) (.tmp 48), .some 49))] []) (.cond (.tmp 49) (.seq
  (.reg [(none, (.mov (.const (.bool .false)), .some 2))] []) .ret) .skip)) (.seq (.seq
  (.reg [(none, (.fadr 1 (.tmp 1), .some 50)), (none, (.load none (.tmp 50), .some 51)), (none, (.bin .eql (.tmp 51) (.const (.int .i64 0)), .some 52))] []) (.cond (.tmp 52) (.seq
  (.reg [(none, (.fadr 3 (.tmp 1), .some 53)), (none, (.load none (.tmp 53), .some 54)), (none, (.bin .eql (.tmp 54) (.const (.int .u64 0)), .some 55)), (none, (.mov (.tmp 55), .some 56)), (.some (56, .true), (.fadr 4 (.tmp 1), .some 57)), (.some (56, .true), (.load none (.tmp 57), .some 58)), (.some (56, .true), (.bin .eql (.tmp 58) (.const (.int .u64 0)), .some 59)), (none, (.pick (.tmp 56) (.tmp 59) (.const (.bool .false)), .some 60)), (none, (.mov (.tmp 60), .some 2))] []) .ret) .skip)) (.seq
  (.reg [(none, (.fadr 3 (.tmp 1), .some 61)), (none, (.load none (.tmp 61), .some 62)), (none, (.fadr 4 (.tmp 1), .some 63)), (none, (.load none (.tmp 63), .some 64)), (none, (.bin .lss (.tmp 62) (.tmp 64), .some 65)), (none, (.mov (.tmp 65), .some 66)), (.some (66, .true), (.fadr 4 (.tmp 1), .some 67)), (.some (66, .true), (.load none (.tmp 67), .some 68)), (.some (66, .true), (.bin .leq (.tmp 68) (.const (.int .u64 4611686018427387904)), .some 69)), (none, (.pick (.tmp 66) (.tmp 69) (.const (.bool .false)), .some 70)), (none, (.mov (.tmp 70), .some 71)), (.some (71, .true), (.fadr 4 (.tmp 1), .some 72)), (.some (71, .true), (.load none (.tmp 72), .some 73)), (.some (71, .true), (.fadr 3 (.tmp 1), .some 74)), (.some (71, .true), (.load none (.tmp 74), .some 75)), (.some (71, .true), (.bin .sub (.tmp 73) (.tmp 75), .some 76)), (.some (71, .true), (.fadr 2 (.tmp 1), .some 77)), (.some (71, .true), (.load none (.tmp 77), .some 78)), (.some (71, .true), (.cvt .u64 (.tmp 78), .some 79)), (.some (71, .true), (.bin .geq (.tmp 76) (.tmp 79), .some 80)), (none, (.pick (.tmp 71) (.tmp 80) (.const (.bool .false)), .some 81)), (none, (.mov (.tmp 81), .some 2))] []) .ret))))
theorem b36 : Try.f36.body.bind (compC Try.prog) = some c36 := by kernel_rfl
theorem r36 : compR Try.prog Try.f36 = .some [.tmp 2] := by kernel_rfl
theorem n36 : (Try.f36.name == "runtime.NumGoroutine") = false := by kernel_rfl
def c44 : C := .seq
  (.reg [(none, (.mov (.const (.pointer none)), .some 2))] []) (.seq
  (.reg [(none, (.mov (.tmp 0), .some 3)), (none, (.mov (.tmp 0), .some 4)), (none, (.len .false (.tmp 4), .some 5)), (none, (.mov (.tmp 0), .some 6)), (none, (.len .false (.tmp 6), .some 7)), (none, (.slice 1 (.tmp 3) none (.some (.tmp 5)) (.some (.tmp 7)), .some 8)), (none, (.build [.slice none 0 0, .int .i64 0, .int .i64 0, .int .i64 0] [(0, (1, .tmp 8))], .some 9)), (none, (.box (.tmp 9), .some 10)), (none, (.mov (.tmp 10), .some 2))] []) .ret)
theorem b44 : Try.f44.body.bind (compC Try.prog) = some c44 := by kernel_rfl
theorem r44 : compR Try.prog Try.f44 = .some [.tmp 2] := by kernel_rfl
theorem n44 : (Try.f44.name == "runtime.NumGoroutine") = false := by kernel_rfl
def c92 : C := .seq
  (.reg [(none, (.mov (.const (.slice none 0 0)), .some 2))] []) (.seq
  (.reg [(none, (.mov (.tmp 0), .some 5)), (none, (.cvt .u64 (.tmp 5), .some 6)), (none, (.call (.func 147) [.tmp 6, .const (.int .i64 4)], .some 7)), (none, (.mov (.tmp 7), .some 3))] []) (.seq
  (.reg [(none, (.mov (.const (.slice none 0 0)), .some 4))] []) (.seq
  (.reg [(none, (.mov (.tmp 4), .some 8)), (none, (.mov (.tmp 3), .some 9)), (none, (.app 1 1 (.tmp 8) (.tmp 9), .some 10)), (none, (.mov (.tmp 10), .some 4))] []) (.seq
  (.reg [(none, (.mov (.tmp 4), .some 11)), (none, (.mov (.tmp 3), .some 12)), (none, (.call (.func 148) [.tmp 12], .some 13)), (none, (.cvt .u64 (.tmp 13), .some 14)), (none, (.call (.func 147) [.tmp 14, .const (.int .i64 4)], .some 15)), (none, (.app 1 1 (.tmp 11) (.tmp 15), .some 16)), (none, (.mov (.tmp 16), .some 4))] []) (.seq
  (.reg [(none, (.mov (.tmp 4), .some 17)), (none, (.bsl 1 [.const (.int .u8 76), .const (.int .u8 79), .const (.int .u8 72), .const (.int .u8 84)], .some 18)), (none, (.app 1 1 (.tmp 17) (.tmp 18), .some 19)), (none, (.mov (.tmp 19), .some 2))] []) .ret)))))
theorem b92 : Try.f92.body.bind (compC Try.prog) = some c92 := by kernel_rfl
theorem r92 : compR Try.prog Try.f92 = .some [.tmp 2] := by kernel_rfl
theorem n92 : (Try.f92.name == "runtime.NumGoroutine") = false := by kernel_rfl
def c97 : C := .seq
  (.reg [(none, (.mov (.tmp 0), .some 6)), (none, (.call (.func 57) [.tmp 6], .some 7))] []) (.cond (.tmp 7)
  (.reg [(none, (.mov (.tmp 0), .some 8)), (none, (.mov (.tmp 1), .some 9)), (none, (.mov (.tmp 2), .some 10)), (none, (.call (.func 124) [.tmp 9, .tmp 10], .some 11)), (none, (.nilc (.tmp 8), .some 12)), (none, (.fadr 2 (.tmp 12), .some 13)), (none, (.store 2 (.tmp 13) (.tmp 11), none))] []) .skip)
theorem b97 : Try.f97.body.bind (compC Try.prog) = some c97 := by kernel_rfl
theorem r97 : compR Try.prog Try.f97 = .some [] := by kernel_rfl
theorem n97 : (Try.f97.name == "runtime.NumGoroutine") = false := by kernel_rfl
def c98 : C := .seq
  (.reg [(none, (.mov (.const (.int .u64 0)), .some 2))] []) (.seq
  (.reg [(none, (.mov (.tmp 0), .some 3)), (none, (.call (.func 164) [.tmp 3, .func 143], .some 4)), (none, (.mov (.tmp 4), .some 2))] []) .ret)
theorem b98 : Try.f98.body.bind (compC Try.prog) = some c98 := by kernel_rfl
theorem r98 : compR Try.prog Try.f98 = .some [.tmp 2] := by kernel_rfl
theorem n98 : (Try.f98.name == "runtime.NumGoroutine") = false := by kernel_rfl
def c103 : C := .seq
  (.reg [(none, (.box (.tmp 0), .some 2)), (none, (.new [.slice none 0 0, .int .i64 0, .int .i64 0, .int .i64 0], .some 4)), (none, (.mov (.const (.slice none 0 0)), .some 5))] []) (.seq (.seq
  (.reg [(none, (.fadr 2 (.tmp 2), .some 7)), (none, (.fadr 0 (.tmp 7), .some 8)), (none, (.load none (.tmp 8), .some 9)), (none, (.bin .neq (.tmp 9) (.const (.int .i64 0)), .some 10))] []) (.cond (.tmp 10) (.seq
  (.reg [(none, (.load (.some 4) (.tmp 2), .some 11)), (none, (.store 4 (.tmp 4) (.tmp 11), none)), (none, (.mov (.const (.slice none 0 0)), .some 5))] []) .ret) .skip)) (.seq (.seq
  (.reg [(none, (.mov (.tmp 1), .some 12)), (none, (.bin .lss (.tmp 12) (.const (.int .i64 0)), .some 13))] []) (.cond (.tmp 13) (.seq
  (.reg [(none, (.load (.some 4) (.tmp 2), .some 14)), (none, (.fadr 1 (.tmp 2), .some 15)), (none, (.load none (.tmp 15), .some 16)), (none, (.call (.func 104) [.tmp 14, .const (.int .i64 17), .tmp 16], .some 17)), (none, (.store 4 (.tmp 4) (.tmp 17), none)), (none, (.mov (.const (.slice none 0 0)), .some 5))] []) .ret) .skip)) (.seq (.seq
  (.reg [(none, (.mov (.tmp 1), .some 18)), (none, (.fadr 0 (.tmp 2), .some 19)), (none, (.load none (.tmp 19), .some 20)), (none, (.len .false (.tmp 20), .some 21)), (none, (.fadr 1 (.tmp 2), .some 22)), (none, (.load none (.tmp 22), .some 23)), (none, (.bin .sub (.tmp 21) (.tmp 23), .some 24)), (none, (.bin .gtr (.tmp 18) (.tmp 24), .some 25))] []) (.cond (.tmp 25) (.seq
  (.reg [(none, (.load (.some 4) (.tmp 2), .some 26)), (none, (.fadr 0 (.tmp 2), .some 27)), (none, (.load none (.tmp 27), .some 28)), (none, (.len .false (.tmp 28), .some 29)), (none, (.call (.func 104) [.tmp 26, .const (.int .i64 1), .tmp 29], .some 30)), (none, (.store 4 (.tmp 4) (.tmp 30), none)), (none, (.mov (.const (.slice none 0 0)), .some 5))] []) .ret) .skip)) (.seq
  (.reg [(none, (.mov (.const (.slice none 0 0)), .some 6))] []) (.seq
  (.reg [(none, (.mov (.tmp 6), .some 31)), (none, (.fadr 0 (.tmp 2), .some 32)), (none, (.load none (.tmp 32), .some 33)), (none, (.fadr 1 (.tmp 2), .some 34)), (none, (.load none (.tmp 34), .some 35)), (none, (.fadr 1 (.tmp 2), .some 36)), (none, (.load none (.tmp 36), .some 37)), (none, (.mov (.tmp 1), .some 38)), (none, (.bin .add (.tmp 37) (.tmp 38), .some 39)), (none, (.slice 1 (.tmp 33) (.some (.tmp 35)) (.some (.tmp 39)) none, .some 40)), (none, (.app 1 1 (.tmp 31) (.tmp 40), .some 41)), (none, (.mov (.tmp 41), .some 6))] []) (.seq
  (.reg [(none, (.fadr 1 (.tmp 2), .some 42)), (none, (.load none (.tmp 42), .some 43)), (none, (.mov (.tmp 1), .some 44)), (none, (.bin .add (.tmp 43) (.tmp 44), .some 45)), (none, (.fadr 1 (.tmp 2), .some 46)), (none, (.store 1 (.tmp 46) (.tmp 45), none))] []) (.seq
  (.reg [(none, (.load (.some 4) (.tmp 2), .some 47)), (none, (.mov (.tmp 6), .some 48)), (none, (.store 4 (.tmp 4) (.tmp 47), none)), (none, (.mov (.tmp 48), .some 5))] []) .ret)))))))
theorem b103 : Try.f103.body.bind (compC Try.prog) = some c103 := by kernel_rfl
theorem r103 : compR Try.prog Try.f103 = .some [.cell 4 (.some 4), .tmp 5] := by kernel_rfl
theorem n103 : (Try.f103.name == "runtime.NumGoroutine") = false := by kernel_rfl
def c109 : C := .seq
  (.reg [(none, (.mov (.const (.bool .false)), .some 2))] []) (.seq
  (.reg [(none, (.mov (.tmp 0), .some 3)), (none, (.bin .gtr (.tmp 3) (.const (.int .u64 0)), .some 4)), (none, (.mov (.tmp 4), .some 5)), (.some (5, .true), (.mov (.tmp 0), .some 6)), (.some (5, .true), (.bin .leq (.tmp 6) (.const (.int .u64 4611686018427387903)), .some 7)), (none, (.pick (.tmp 5) (.tmp 7) (.const (.bool .false)), .some 8)), (none, (.mov (.tmp 8), .some 2))] []) .ret)
theorem b109 : Try.f109.body.bind (compC Try.prog) = some c109 := by kernel_rfl
theorem r109 : compR Try.prog Try.f109 = .some [.tmp 2] := by kernel_rfl
theorem n109 : (Try.f109.name == "runtime.NumGoroutine") = false := by kernel_rfl
def c142 : C := .seq
  (.reg [(none, (.mov (.const (.int .u32 0)), .some 2))] []) (.seq
  (.reg [(none, (.call (.func 177) [], .some 3)), (none, (.mov (.tmp 0), .some 4)), (none, (.call (.func 176) [.tmp 3, .tmp 4], .some 5)), (none, (.call (.func 175) [.tmp 5], .some 6)), (none, (.mov (.tmp 6), .some 2))] []) .ret)
theorem b142 : Try.f142.body.bind (compC Try.prog) = some c142 := by kernel_rfl
theorem r142 : compR Try.prog Try.f142 = .some [.tmp 2] := by kernel_rfl
theorem n142 : (Try.f142.name == "runtime.NumGoroutine") = false := by kernel_rfl
def c147 : C := .seq
  (.reg [(none, (.mov (.const (.slice none 0 0)), .some 4))] []) (.seq
  (.reg [(none, (.mov (.const (.slice none 0 0)), .some 5))] []) (.seq (.seq
  (.reg [(none, (.mov (.const (.int .i64 0)), .some 6))] []) (.block 0 (.loop (.seq (.seq
  (.reg [(none, (.mov (.tmp 6), .some 7)), (none, (.mov (.tmp 1), .some 8)), (none, (.bin .lss (.tmp 7) (.tmp 8), .some 9)), (none, (.mov (.tmp 9), .some 10)), (.some (10, .true), (.mov (.tmp 6), .some 11)), (.some (10, .true), (.bin .lss (.tmp 11) (.const (.int .i64 8)), .some 12)), (none, (.pick (.tmp 10) (.tmp 12) (.const (.bool .false)), .some 13))] []) (.cond (.tmp 13) .skip (.exit 0))) (.seq (.block 1
  (.reg [(none, (.mov (.tmp 5), .some 16)), (none, (.mov (.tmp 0), .some 17)), (none, (.mov (.tmp 6), .some 18)), (none, (.bin .mul (.const (.int .i64 8)) (.tmp 18), .some 19)), (none, (.cvt .u64 (.tmp 19), .some 20)), (none, (.bin .shr (.tmp 17) (.tmp 20), .some 21)), (none, (.cvt .u8 (.tmp 21), .some 22)), (none, (.bsl 1 [.tmp 22], .some 23)), (none, (.app 1 1 (.tmp 16) (.tmp 23), .some 24)), (none, (.mov (.tmp 24), .some 5))] []))
  (.reg [(none, (.mov (.tmp 6), .some 14)), (none, (.bin .add (.tmp 14) (.const (.int .i64 1)), .some 15)), (none, (.mov (.tmp 15), .some 6))] [])))))) (.seq
  (.reg [(none, (.mov (.tmp 5), .some 25)), (none, (.mov (.tmp 25), .some 4))] []) .ret)))
theorem b147 : Try.f147.body.bind (compC Try.prog) = some c147 := by kernel_rfl
theorem r147 : compR Try.prog Try.f147 = .some [.tmp 4] := by kernel_rfl
theorem n147 : (Try.f147.name == "runtime.NumGoroutine") = false := by kernel_rfl
def c154 : C := .seq
  (.reg [(none, (.mov (.const (.slice none 0 0)), .some 4)), (none, (.mov (.const (.int .i64 0)), .some 5)), (none, (.new [.int .i64 0, .int .i64 0], .some 6))] []) (.seq
  (.reg [(none, (.mov (.tmp 0), .some 10)), (none, (.call (.func 44) [.tmp 10], .some 11)), (none, (.mov (.tmp 11), .some 7))] []) (.seq
  (.reg [(none, (.mov (.tmp 7), .some 12)), (none, (.mov (.tmp 1), .some 13)), (none, (.call (.func 181) [.tmp 12, .tmp 13], .some 14)), (none, (.mov (.tmp 14), .some 8))] []) (.seq (.seq
  (.reg [(none, (.mov (.tmp 7), .some 15)), (none, (.call (.func 48) [.tmp 15], .some 16)), (none, (.new [.int .i64 0, .int .i64 0], .some 9)), (none, (.store 2 (.tmp 9) (.tmp 16), none))] []) (.seq
  (.reg [(none, (.load (.some 2) (.tmp 9), .some 17)), (none, (.call (.func 102) [.tmp 17], .some 18)), (none, (.un .not (.tmp 18), .some 19))] []) (.cond (.tmp 19) (.seq
  (.reg [(none, (.load (.some 2) (.tmp 9), .some 20)), (none, (.mov (.const (.slice none 0 0)), .some 4)), (none, (.mov (.const (.int .i64 0)), .some 5)), (none, (.store 2 (.tmp 6) (.tmp 20), none))] []) .ret) .skip))) (.seq
  (.reg [(none, (.mov (.tmp 8), .some 21)), (none, (.mov (.tmp 7), .some 22)), (none, (.call (.func 49) [.tmp 22], .some 23)), (none, (.build [.int .i64 0, .int .i64 0] [], .some 24)), (none, (.mov (.tmp 21), .some 4)), (none, (.mov (.tmp 23), .some 5)), (none, (.store 2 (.tmp 6) (.tmp 24), none))] []) .ret))))
theorem b154 : Try.f154.body.bind (compC Try.prog) = some c154 := by kernel_rfl
theorem r154 : compR Try.prog Try.f154 = .some [.tmp 4, .tmp 5, .cell 6 (.some 2)] := by kernel_rfl
theorem n154 : (Try.f154.name == "runtime.NumGoroutine") = false := by kernel_rfl
def c156 : C := .seq
  (.reg [(none, (.new [.int .i64 0, .int .i64 0], .some 4))] []) (.seq
  (.reg [(none, (.build [.int .i64 0, .int .i64 0] [], .some 6)), (none, (.new [.int .i64 0, .int .i64 0], .some 5)), (none, (.store 2 (.tmp 5) (.tmp 6), none))] []) (.seq (.seq
  (.reg [(none, (.mov (.tmp 0), .some 7)), (none, (.bin .neq (.tmp 7) (.const (.int .i64 0)), .some 8))] []) (.cond (.tmp 8)
  (.reg [(none, (.mov (.tmp 0), .some 9)), (none, (.mov (.tmp 1), .some 10)), (none, (.fadr 0 (.tmp 5), .some 11)), (none, (.store 1 (.tmp 11) (.tmp 9), none)), (none, (.fadr 1 (.tmp 5), .some 12)), (none, (.store 1 (.tmp 12) (.tmp 10), none))] []) .skip)) (.seq
  (.reg [(none, (.load (.some 2) (.tmp 5), .some 13)), (none, (.store 2 (.tmp 4) (.tmp 13), none))] []) .ret)))
theorem b156 : Try.f156.body.bind (compC Try.prog) = some c156 := by kernel_rfl
theorem r156 : compR Try.prog Try.f156 = .some [.cell 4 (.some 2)] := by kernel_rfl
theorem n156 : (Try.f156.name == "runtime.NumGoroutine") = false := by kernel_rfl
def c158 : C := .seq
  (.reg [(none, (.mov (.const (.slice none 0 0)), .some 2))] []) (.seq
  (.reg [(none, (.mov (.tmp 0), .some 3)), (none, (.call (.func 183) [.tmp 3], .some 4)), (none, (.mov (.tmp 0), .some 5)), (none, (.call (.func 148) [.tmp 5], .some 6)), (none, (.cvt .u64 (.tmp 6), .some 7)), (none, (.call (.func 147) [.tmp 7, .const (.int .i64 4)], .some 8)), (none, (.app 1 1 (.tmp 4) (.tmp 8), .some 9)), (none, (.mov (.tmp 9), .some 2))] []) .ret)
theorem b158 : Try.f158.body.bind (compC Try.prog) = some c158 := by kernel_rfl
theorem r158 : compR Try.prog Try.f158 = .some [.tmp 2] := by kernel_rfl
theorem n158 : (Try.f158.name == "runtime.NumGoroutine") = false := by kernel_rfl
def c161 : C := .seq
  (.reg [(none, (.box (.tmp 0), .some 1)), (none, (.mov (.const (.bool .false)), .some 2))] []) (.seq (.seq
  (.reg [(none, (.fadr 1 (.tmp 1), .some 3)), (none, (.load none (.tmp 3), .some 4)), (none, (.bin .eql (.tmp 4) (.const (.int .i64 0)), .some 5))] []) (.cond (.tmp 5) (.seq
  (.reg [(none, (.fadr 3 (.tmp 1), .some 6)), (none, (.load none (.tmp 6), .some 7)), (none, (.bin .eql (.tmp 7) (.const (.int .u64 0)), .some 8)), (none, (.mov (.tmp 8), .some 9)), (.some (9, .true), (.fadr 4 (.tmp 1), .some 10)), (.some (9, .true), (.load none (.tmp 10), .some 11)), (.some (9, .true), (.bin .eql (.tmp 11) (.const (.int .u64 0)), .some 12)), (none, (.pick (.tmp 9) (.tmp 12) (.const (.bool .false)), .some 13)), (none, (.mov (.tmp 13), .some 2))] []) .ret) .skip)) (.seq
  (.reg [(none, (.fadr 3 (.tmp 1), .some 14)), (none, (.load none (.tmp 14), .some 15)), (none, (.fadr 4 (.tmp 1), .some 16)), (none, (.load none (.tmp 16), .some 17)), (none, (.bin .lss (.tmp 15) (.tmp 17), .some 18)), (none, (.mov (.tmp 18), .some 19)), (.some (19, .true), (.fadr 4 (.tmp 1), .some 20)), (.some (19, .true), (.load none (.tmp 20), .some 21)), (.some (19, .true), (.bin .leq (.tmp 21) (.const (.int .u64 4611686018427387904)), .some 22)), (none, (.pick (.tmp 19) (.tmp 22) (.const (.bool .false)), .some 23)), (none, (.mov (.tmp 23), .some 24)), (.some (24, .true), (.fadr 4 (.tmp 1), .some 25)), (.some (24, .true), (.load none (.tmp 25), .some 26)), (.some (24, .true), (.fadr 3 (.tmp 1), .some 27)), (.some (24, .true), (.load none (.tmp 27), .some 28)), (.some (24, .true), (.bin .sub (.tmp 26) (.tmp 28), .some 29)), (.some (24, .true), (.fadr 2 (.tmp 1), .some 30)), (.some (24, .true), (.load none (.tmp 30), .some 31)), (.some (24, .true), (.cvt .u64 (.tmp 31), .some 32)), (.some (24, .true), (.bin .geq (.tmp 29) (.tmp 32), .some 33)), (none, (.pick (.tmp 24) (.tmp 33) (.const (.bool .false)), .some 34)), (none, (.mov (.tmp 34), .some 2))] []) .ret))
theorem b161 : Try.f161.body.bind (compC Try.prog) = some c161 := by kernel_rfl
theorem r161 : compR Try.prog Try.f161 = .some [.tmp 2] := by kernel_rfl
theorem n161 : (Try.f161.name == "runtime.NumGoroutine") = false := by kernel_rfl
def c174 : C := .seq
  (.reg [(none, (.mov (.const (.int .i64 0)), .some 2))] []) (.seq (.seq
  (.reg [(none, (.mov (.tmp 0), .some 3)), (none, (.eqp .false (.tmp 3) (.const (.pointer none)), .some 4))] []) (.cond (.tmp 4) (.seq
  (.reg [(none, (.mov (.const (.int .i64 0)), .some 2))] []) .ret) .skip)) (.seq
  (.reg [(none, (.mov (.tmp 0), .some 5)), (none, (.nilc (.tmp 5), .some 6)), (none, (.fadr 0 (.tmp 6), .some 7)), (none, (.load none (.tmp 7), .some 8)), (none, (.mov (.tmp 0), .some 9)), (none, (.nilc (.tmp 9), .some 10)), (none, (.fadr 1 (.tmp 10), .some 11)), (none, (.load none (.tmp 11), .some 12)), (none, (.len .false (.tmp 12), .some 13)), (none, (.bin .sub (.tmp 8) (.tmp 13), .some 14)), (none, (.mov (.tmp 14), .some 2))] [(3, 7)]) .ret))
theorem b174 : Try.f174.body.bind (compC Try.prog) = some c174 := by kernel_rfl
theorem r174 : compR Try.prog Try.f174 = .some [.tmp 2] := by kernel_rfl
theorem n174 : (Try.f174.name == "runtime.NumGoroutine") = false := by kernel_rfl
def c179 : C := .seq
  (.reg [(none, (.mov (.const (.int .u32 0)), .some 4))] []) (.seq (.seq
  (.reg [(none, (.mov (.const (.int .i64 0)), .some 5))] []) (.block 0 (.loop (.seq (.seq
  (.reg [(none, (.mov (.tmp 5), .some 6)), (none, (.mov (.tmp 1), .some 7)), (none, (.len .false (.tmp 7), .some 8)), (none, (.bin .lss (.tmp 6) (.tmp 8), .some 9))] []) (.cond (.tmp 9) .skip (.exit 0))) (.seq (.block 1
  (.reg [(none, (.mov (.tmp 0), .some 12)), (none, (.mov (.tmp 1), .some 13)), (none, (.mov (.tmp 5), .some 14)), (none, (.iadr 1 (.tmp 13) (.tmp 14), .some 15)), (none, (.load none (.tmp 15), .some 16)), (none, (.call (.func 189) [.tmp 12, .tmp 16], .some 17)), (none, (.mov (.tmp 17), .some 0))] []))
  (.reg [(none, (.mov (.tmp 5), .some 10)), (none, (.bin .add (.tmp 10) (.const (.int .i64 1)), .some 11)), (none, (.mov (.tmp 11), .some 5))] [])))))) (.seq
  (.reg [(none, (.mov (.tmp 0), .some 18)), (none, (.mov (.tmp 18), .some 4))] []) .ret))
theorem b179 : Try.f179.body.bind (compC Try.prog) = some c179 := by kernel_rfl
theorem r179 : compR Try.prog Try.f179 = .some [.tmp 4] := by kernel_rfl
theorem n179 : (Try.f179.name == "runtime.NumGoroutine") = false := by kernel_rfl
def c182 : C := .seq
  (.reg [(none, (.box (.tmp 0), .some 2)), (none, (.new [.slice none 0 0, .int .i64 0, .int .i64 0, .int .i64 0], .some 4)), (none, (.mov (.const (.slice none 0 0)), .some 5))] []) (.seq
  (.reg [(none, (.load (.some 4) (.tmp 2), .some 9)), (none, (.mov (.tmp 1), .some 10)), (none, (.call (.func 106) [.tmp 9, .tmp 10], .some 11)), (none, (.mov (.tmp 11), .some 8)), (none, (.ext (.tmp 8) 0, .some 12)), (none, (.ext (.tmp 8) 1, .some 13)), (none, (.new [.slice none 0 0, .int .i64 0, .int .i64 0, .int .i64 0], .some 6)), (none, (.store 4 (.tmp 6) (.tmp 12), none)), (none, (.mov (.tmp 13), .some 7))] []) (.seq
  (.reg [(none, (.load (.some 4) (.tmp 6), .some 14)), (none, (.mov (.tmp 7), .some 15)), (none, (.call (.func 103) [.tmp 14, .tmp 15], .some 16)), (none, (.ext (.tmp 16) 0, .some 17)), (none, (.ext (.tmp 16) 1, .some 18)), (none, (.store 4 (.tmp 4) (.tmp 17), none)), (none, (.mov (.tmp 18), .some 5))] []) .ret))
theorem b182 : Try.f182.body.bind (compC Try.prog) = some c182 := by kernel_rfl
theorem r182 : compR Try.prog Try.f182 = .some [.cell 4 (.some 4), .tmp 5] := by kernel_rfl
theorem n182 : (Try.f182.name == "runtime.NumGoroutine") = false := by kernel_rfl
def c191 : C := .seq
  (.reg [(none, (.mov (.const (.int .i64 0)), .some 2))] []) (.seq
  (.reg [(none, (.mov (.tmp 0), .some 3)), (none, (.mx .false (.tmp 3) (.const (.int .i64 2097152)), .some 4)), (none, (.mov (.tmp 4), .some 2))] []) .ret)
theorem b191 : Try.f191.body.bind (compC Try.prog) = some c191 := by kernel_rfl
theorem r191 : compR Try.prog Try.f191 = .some [.tmp 2] := by kernel_rfl
theorem n191 : (Try.f191.name == "runtime.NumGoroutine") = false := by kernel_rfl
end Go.Proofs.Ytkhnfleejgfhgaa
