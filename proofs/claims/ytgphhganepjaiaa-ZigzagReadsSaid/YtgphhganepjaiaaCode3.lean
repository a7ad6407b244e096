/-
  The codes of the seat's functions over abstract values, each shown to be its function's own (by program: wip/tools/codes.py).
-/
import Derived.Test.YtgphhganepjaiaaA2
import Derived.Test.YtgphhganepjaiaaProg
import Derived.KernelRfl
namespace Go.Proofs.Ytgphhganepjaiaa
def c6 : C := .seq
  (.reg [(none, (.mov (.const (.bool .false)), .some 6))] []) (.seq (.seq
  (.reg [(none, (.mov (.tmp 0), .some 14)), (none, (.len .false (.tmp 14), .some 15)), (none, (.bin .gtr (.tmp 15) (.const (.int .i64 300)), .some 16)), (none, (.mov (.tmp 16), .some 17)), (.some (17, .false), (.mov (.tmp 1), .some 18)), (.some (17, .false), (.len .false (.tmp 18), .some 19)), (.some (17, .false), (.bin .gtr (.tmp 19) (.const (.int .i64 200)), .some 20)), (none, (.pick (.tmp 17) (.const (.bool .true)) (.tmp 20), .some 21))] []) (.cond (.tmp 21) (.seq
  (.reg [(none, (.call (.func 43) [], .some 22)), (none, (.mov (.tmp 22), .some 6))] []) .ret) .skip)) (.seq
  (.reg [(none, (.call (.func 37) [.const (.int .i64 3000)], .some 23)), (none, (.call (.func 37) [.const (.int .i64 3000)], .some 24)), (none, (.mov (.tmp 23), .some 7)), (none, (.mov (.tmp 24), .some 8))] []) (.seq
  (.reg [(none, (.mov (.tmp 7), .some 25)), (none, (.mov (.tmp 0), .some 26)), (none, (.call (.func 44) [.tmp 25, .tmp 26], .some 27))] []) (.seq
  (.reg [(none, (.mov (.tmp 8), .some 28)), (none, (.mov (.tmp 1), .some 29)), (none, (.call (.func 45) [.tmp 28, .tmp 29], .some 30))] []) (.seq
  (.reg [(none, (.mov (.tmp 7), .some 32)), (none, (.call (.func 40) [.tmp 32], .some 33)), (none, (.mov (.tmp 33), .some 31)), (none, (.ext (.tmp 31) 0, .some 34)), (none, (.ext (.tmp 31) 1, .some 35)), (none, (.mov (.tmp 34), .some 9)), (none, (.mov (.tmp 35), .some 10))] []) (.seq
  (.reg [(none, (.mov (.tmp 8), .some 37)), (none, (.call (.func 40) [.tmp 37], .some 38)), (none, (.mov (.tmp 38), .some 36)), (none, (.ext (.tmp 36) 0, .some 39)), (none, (.ext (.tmp 36) 1, .some 40)), (none, (.mov (.tmp 39), .some 11)), (none, (.mov (.tmp 40), .some 12))] []) (.seq
  (.reg [(none, (.mov (.tmp 2), .some 41)), (none, (.mx .true (.tmp 41) (.const (.int .i64 0)), .some 42)), (none, (.mx .false (.tmp 42) (.const (.int .i64 1099511627776)), .some 43)), (none, (.mov (.tmp 43), .some 13))] []) (.seq
  (.reg [(none, (.mov (.tmp 9), .some 44)), (none, (.mov (.tmp 0), .some 45)), (none, (.call (.func 46) [.tmp 45], .some 46)), (none, (.call (.func 41) [.tmp 44, .tmp 46], .some 47)), (none, (.mov (.tmp 47), .some 48)), (.some (48, .true), (.mov (.tmp 11), .some 49)), (.some (48, .true), (.mov (.tmp 1), .some 50)), (.some (48, .true), (.call (.func 47) [.tmp 50], .some 51)), (.some (48, .true), (.call (.func 41) [.tmp 49, .tmp 51], .some 52)), (none, (.pick (.tmp 48) (.tmp 52) (.const (.bool .false)), .some 53)), (none, (.mov (.tmp 53), .some 54)), (.some (54, .true), (.mov (.tmp 0), .some 55)), (.some (54, .true), (.len .false (.tmp 55), .some 56)), (.some (54, .true), (.call (.func 48) [.tmp 56], .some 57)), (.some (54, .true), (.mov (.tmp 9), .some 58)), (.some (54, .true), (.len .false (.tmp 58), .some 59)), (.some (54, .true), (.bin .eql (.tmp 57) (.tmp 59), .some 60)), (none, (.pick (.tmp 54) (.tmp 60) (.const (.bool .false)), .some 61)), (none, (.mov (.tmp 61), .some 62)), (.some (62, .true), (.mov (.tmp 1), .some 63)), (.some (62, .true), (.call (.func 49) [.tmp 63], .some 64)), (.some (62, .true), (.mov (.tmp 11), .some 65)), (.some (62, .true), (.len .false (.tmp 65), .some 66)), (.some (62, .true), (.bin .eql (.tmp 64) (.tmp 66), .some 67)), (none, (.pick (.tmp 62) (.tmp 67) (.const (.bool .false)), .some 68)), (none, (.mov (.tmp 68), .some 69)), (.some (69, .true), (.mov (.tmp 13), .some 70)), (.some (69, .true), (.call (.func 48) [.tmp 70], .some 71)), (.some (69, .true), (.mov (.tmp 13), .some 72)), (.some (69, .true), (.bin .gtr (.tmp 71) (.tmp 72), .some 73)), (none, (.pick (.tmp 69) (.tmp 73) (.const (.bool .false)), .some 74)), (none, (.mov (.tmp 74), .some 75)), (.some (75, .true), (.mov (.tmp 13), .some 76)), (.some (75, .true), (.bin .eql (.tmp 76) (.const (.int .i64 0)), .some 77)), (.some (75, .true), (.mov (.tmp 77), .some 78)), (.some (78, .false), (.mov (.tmp 13), .some 79)), (.some (78, .false), (.un .neg (.tmp 79), .some 80)), (.some (78, .false), (.call (.func 48) [.tmp 80], .some 81)), (.some (78, .false), (.bin .eql (.tmp 81) (.const (.int .i64 1)), .some 82)), (.some (75, .true), (.pick (.tmp 78) (.const (.bool .true)) (.tmp 82), .some 83)), (none, (.pick (.tmp 75) (.tmp 83) (.const (.bool .false)), .some 84)), (none, (.mov (.tmp 84), .some 85)), (.some (85, .true), (.call (.func 43) [], .some 86)), (none, (.pick (.tmp 85) (.tmp 86) (.const (.bool .false)), .some 87)), (none, (.mov (.tmp 87), .some 6))] []) .ret))))))))
theorem b6 : Try.f6.body.bind (compC Try.prog) = some c6 := by kernel_rfl
theorem r6 : compR Try.prog Try.f6 = .some [.tmp 6] := by kernel_rfl
theorem n6 : (Try.f6.name == "runtime.NumGoroutine") = false := by kernel_rfl
def c8 : C := .seq
  (.reg [(none, (.mov (.const (.bool .false)), .some 6))] []) (.seq (.seq
  (.reg [(none, (.mov (.tmp 1), .some 15)), (none, (.len .false (.tmp 15), .some 16)), (none, (.bin .gtr (.tmp 16) (.const (.int .i64 200)), .some 17)), (none, (.mov (.tmp 17), .some 18)), (.some (18, .false), (.mov (.tmp 2), .some 19)), (.some (18, .false), (.len .false (.tmp 19), .some 20)), (.some (18, .false), (.bin .gtr (.tmp 20) (.const (.int .i64 200)), .some 21)), (none, (.pick (.tmp 18) (.const (.bool .true)) (.tmp 21), .some 22))] []) (.cond (.tmp 22) (.seq
  (.reg [(none, (.call (.func 51) [], .some 23)), (none, (.mov (.tmp 23), .some 6))] []) .ret) .skip)) (.seq
  (.reg [(none, (.mov (.tmp 0), .some 24)), (none, (.mov (.tmp 1), .some 25)), (none, (.call (.func 50) [.tmp 24, .tmp 25], .some 26)), (none, (.mov (.tmp 26), .some 7))] []) (.seq
  (.reg [(none, (.mov (.tmp 0), .some 28)), (none, (.mov (.tmp 1), .some 29)), (none, (.call (.func 52) [.tmp 28, .tmp 29], .some 30)), (none, (.mov (.tmp 30), .some 27)), (none, (.ext (.tmp 27) 0, .some 31)), (none, (.ext (.tmp 27) 1, .some 32)), (none, (.mov (.tmp 31), .some 8)), (none, (.mov (.tmp 32), .some 9))] []) (.seq (.seq
  (.reg [(none, (.mov (.tmp 0), .some 33)), (none, (.mov (.tmp 1), .some 34)), (none, (.call (.func 55) [.tmp 33, .tmp 34], .some 35)), (none, (.mov (.tmp 7), .some 36)), (none, (.eqb .true (.tmp 35) (.tmp 36), .some 37)), (none, (.mov (.tmp 37), .some 38)), (.some (38, .false), (.mov (.tmp 9), .some 39)), (.some (38, .false), (.mov (.tmp 7), .some 40)), (.some (38, .false), (.eqb .true (.tmp 39) (.tmp 40), .some 41)), (none, (.pick (.tmp 38) (.const (.bool .true)) (.tmp 41), .some 42)), (none, (.mov (.tmp 42), .some 43)), (.some (43, .false), (.mov (.tmp 9), .some 44)), (.some (43, .false), (.un .not (.tmp 44), .some 45)), (.some (43, .false), (.mov (.tmp 45), .some 46)), (.some (46, .true), (.mov (.tmp 8), .some 47)), (.some (46, .true), (.len .false (.tmp 47), .some 48)), (.some (46, .true), (.bin .neq (.tmp 48) (.const (.int .i64 0)), .some 49)), (.some (43, .false), (.pick (.tmp 46) (.tmp 49) (.const (.bool .false)), .some 50)), (none, (.pick (.tmp 43) (.const (.bool .true)) (.tmp 50), .some 51)), (none, (.mov (.tmp 51), .some 52)), (.some (52, .false), (.mov (.tmp 9), .some 53)), (.some (52, .false), (.mov (.tmp 53), .some 54)), (.some (54, .true), (.mov (.tmp 8), .some 55)), (.some (54, .true), (.mov (.tmp 0), .some 56)), (.some (54, .true), (.mov (.tmp 1), .some 57)), (.some (54, .true), (.call (.func 56) [.tmp 56, .tmp 57], .some 58)), (.some (54, .true), (.call (.func 54) [.tmp 55, .tmp 58], .some 59)), (.some (54, .true), (.un .not (.tmp 59), .some 60)), (.some (52, .false), (.pick (.tmp 54) (.tmp 60) (.const (.bool .false)), .some 61)), (none, (.pick (.tmp 52) (.const (.bool .true)) (.tmp 61), .some 62))] []) (.cond (.tmp 62) (.seq
  (.reg [(none, (.mov (.const (.bool .false)), .some 6))] []) .ret) .skip)) (.seq
  (.reg [(none, (.mov (.tmp 0), .some 64)), (none, (.mov (.tmp 2), .some 65)), (none, (.call (.func 53) [.tmp 64, .tmp 65], .some 66)), (none, (.mov (.tmp 66), .some 63)), (none, (.ext (.tmp 63) 0, .some 67)), (none, (.ext (.tmp 63) 1, .some 68)), (none, (.mov (.tmp 67), .some 10)), (none, (.mov (.tmp 68), .some 11))] []) (.seq (.seq
  (.reg [(none, (.mov (.tmp 11), .some 69)), (none, (.un .not (.tmp 69), .some 70))] []) (.cond (.tmp 70) (.seq
  (.reg [(none, (.mov (.const (.int .u64 0)), .some 12)), (none, (.mov (.const (.bool .false)), .some 13))] []) (.seq (.seq
  (.reg [(none, (.mov (.const (.int .i64 0)), .some 14))] []) (.block 0 (.loop (.seq (.seq
  (.reg [(none, (.mov (.tmp 14), .some 71)), (none, (.mov (.tmp 2), .some 72)), (none, (.len .false (.tmp 72), .some 73)), (none, (.bin .lss (.tmp 71) (.tmp 73), .some 74)), (none, (.mov (.tmp 74), .some 75)), (.some (75, .true), (.mov (.tmp 13), .some 76)), (.some (75, .true), (.un .not (.tmp 76), .some 77)), (none, (.pick (.tmp 75) (.tmp 77) (.const (.bool .false)), .some 78))] []) (.cond (.tmp 78) .skip (.exit 0))) (.seq (.block 1 (.seq
  (.reg [(none, (.mov (.tmp 2), .some 81)), (none, (.mov (.tmp 14), .some 82)), (none, (.iadr 1 (.tmp 81) (.tmp 82), .some 83)), (none, (.load none (.tmp 83), .some 84)), (none, (.mov (.tmp 0), .some 85)), (none, (.mov (.tmp 12), .some 86)), (none, (.bin .sub (.tmp 85) (.tmp 86), .some 87)), (none, (.bin .geq (.tmp 84) (.tmp 87), .some 88)), (none, (.mov (.tmp 88), .some 13))] [])
  (.reg [(none, (.mov (.tmp 12), .some 89)), (none, (.mov (.tmp 2), .some 90)), (none, (.mov (.tmp 14), .some 91)), (none, (.iadr 1 (.tmp 90) (.tmp 91), .some 92)), (none, (.load none (.tmp 92), .some 93)), (none, (.bin .add (.tmp 89) (.tmp 93), .some 94)), (none, (.bin .add (.tmp 94) (.const (.int .u64 1)), .some 95)), (none, (.mov (.tmp 95), .some 12))] [])))
  (.reg [(none, (.mov (.tmp 14), .some 79)), (none, (.bin .add (.tmp 79) (.const (.int .i64 1)), .some 80)), (none, (.mov (.tmp 80), .some 14))] [])))))) (.seq
  (.reg [(none, (.mov (.tmp 13), .some 96)), (none, (.mov (.tmp 96), .some 97)), (.some (97, .true), (.mov (.tmp 10), .some 98)), (.some (97, .true), (.len .false (.tmp 98), .some 99)), (.some (97, .true), (.bin .eql (.tmp 99) (.const (.int .i64 0)), .some 100)), (none, (.pick (.tmp 97) (.tmp 100) (.const (.bool .false)), .some 101)), (none, (.mov (.tmp 101), .some 102)), (.some (102, .true), (.call (.func 51) [], .some 103)), (none, (.pick (.tmp 102) (.tmp 103) (.const (.bool .false)), .some 104)), (none, (.mov (.tmp 104), .some 6))] []) .ret))) .skip)) (.seq
  (.reg [(none, (.mov (.tmp 0), .some 105)), (none, (.mov (.tmp 10), .some 106)), (none, (.call (.func 50) [.tmp 105, .tmp 106], .some 107)), (none, (.mov (.tmp 107), .some 108)), (.some (108, .true), (.mov (.tmp 10), .some 109)), (.some (108, .true), (.len .false (.tmp 109), .some 110)), (.some (108, .true), (.mov (.tmp 2), .some 111)), (.some (108, .true), (.len .false (.tmp 111), .some 112)), (.some (108, .true), (.bin .eql (.tmp 110) (.tmp 112), .some 113)), (none, (.pick (.tmp 108) (.tmp 113) (.const (.bool .false)), .some 114)), (none, (.mov (.tmp 114), .some 115)), (.some (115, .true), (.mov (.tmp 0), .some 116)), (.some (115, .true), (.mov (.tmp 10), .some 117)), (.some (115, .true), (.call (.func 56) [.tmp 116, .tmp 117], .some 118)), (.some (115, .true), (.mov (.tmp 2), .some 119)), (.some (115, .true), (.call (.func 54) [.tmp 118, .tmp 119], .some 120)), (none, (.pick (.tmp 115) (.tmp 120) (.const (.bool .false)), .some 121)), (none, (.mov (.tmp 121), .some 122)), (.some (122, .true), (.call (.func 51) [], .some 123)), (none, (.pick (.tmp 122) (.tmp 123) (.const (.bool .false)), .some 124)), (none, (.mov (.tmp 124), .some 6))] []) .ret)))))))
theorem b8 : Try.f8.body.bind (compC Try.prog) = some c8 := by kernel_rfl
theorem r8 : compR Try.prog Try.f8 = .some [.tmp 6] := by kernel_rfl
theorem n8 : (Try.f8.name == "runtime.NumGoroutine") = false := by kernel_rfl
def c17 : C := .seq
  (.reg [(none, (.mov (.const (.bool .false)), .some 6))] []) (.seq (.seq
  (.reg [(none, (.mov (.tmp 1), .some 11)), (none, (.len .false (.tmp 11), .some 12)), (none, (.bin .gtr (.tmp 12) (.const (.int .i64 300)), .some 13))] []) (.cond (.tmp 13) (.seq
  (.reg [(none, (.call (.func 63) [], .some 14)), (none, (.mov (.tmp 14), .some 6))] []) .ret) .skip)) (.seq
  (.reg [(none, (.mov (.tmp 2), .some 15)), (none, (.call (.func 37) [.tmp 15], .some 16)), (none, (.mov (.tmp 16), .some 7))] []) (.seq
  (.reg [(none, (.mov (.tmp 7), .some 17)), (none, (.mov (.tmp 1), .some 18)), (none, (.call (.func 90) [.tmp 17, .tmp 18], .some 19))] []) (.seq
  (.reg [(none, (.mov (.tmp 7), .some 20)), (none, (.mov (.tmp 0), .some 21)), (none, (.call (.func 91) [.tmp 20, .tmp 21], .some 22))] []) (.seq
  (.reg [(none, (.mov (.tmp 7), .some 24)), (none, (.call (.func 40) [.tmp 24], .some 25)), (none, (.mov (.tmp 25), .some 23)), (none, (.ext (.tmp 23) 0, .some 26)), (none, (.ext (.tmp 23) 1, .some 27)), (none, (.mov (.tmp 26), .some 8)), (none, (.mov (.tmp 27), .some 9))] []) (.seq
  (.reg [(none, (.mov (.tmp 2), .some 28)), (none, (.mx .true (.tmp 28) (.const (.int .i64 0)), .some 29)), (none, (.mov (.tmp 1), .some 30)), (none, (.len .false (.tmp 30), .some 31)), (none, (.mov (.tmp 0), .some 32)), (none, (.call (.func 42) [.tmp 32], .some 33)), (none, (.len .false (.tmp 33), .some 34)), (none, (.bin .add (.tmp 31) (.tmp 34), .some 35)), (none, (.bin .geq (.tmp 29) (.tmp 35), .some 36)), (none, (.mov (.tmp 36), .some 10))] []) (.seq (.seq
  (.reg [(none, (.mov (.tmp 9), .some 37)), (none, (.bin .eql (.tmp 37) (.const (.int .i64 0)), .some 38)), (none, (.mov (.tmp 10), .some 39)), (none, (.eqb .true (.tmp 38) (.tmp 39), .some 40)), (none, (.mov (.tmp 40), .some 41)), (.some (41, .false), (.mov (.tmp 10), .some 42)), (.some (41, .false), (.mov (.tmp 42), .some 43)), (.some (43, .true), (.mov (.tmp 8), .some 44)), (.some (43, .true), (.bsl 1 [], .some 45)), (.some (43, .true), (.mov (.tmp 1), .some 46)), (.some (43, .true), (.app 1 1 (.tmp 45) (.tmp 46), .some 47)), (.some (43, .true), (.mov (.tmp 0), .some 48)), (.some (43, .true), (.call (.func 42) [.tmp 48], .some 49)), (.some (43, .true), (.app 1 1 (.tmp 47) (.tmp 49), .some 50)), (.some (43, .true), (.call (.func 41) [.tmp 44, .tmp 50], .some 51)), (.some (43, .true), (.un .not (.tmp 51), .some 52)), (.some (41, .false), (.pick (.tmp 43) (.tmp 52) (.const (.bool .false)), .some 53)), (none, (.pick (.tmp 41) (.const (.bool .true)) (.tmp 53), .some 54))] []) (.cond (.tmp 54) (.seq
  (.reg [(none, (.mov (.const (.bool .false)), .some 6))] []) .ret) .skip)) (.seq
  (.reg [(none, (.mov (.tmp 0), .some 55)), (none, (.call (.func 65) [.tmp 55], .some 56)), (none, (.mov (.tmp 0), .some 57)), (none, (.call (.func 42) [.tmp 57], .some 58)), (none, (.call (.func 41) [.tmp 56, .tmp 58], .some 59)), (none, (.mov (.tmp 59), .some 60)), (.some (60, .true), (.mov (.tmp 0), .some 61)), (.some (60, .true), (.call (.func 72) [.tmp 61], .some 62)), (.some (60, .true), (.mov (.tmp 0), .some 63)), (.some (60, .true), (.call (.func 42) [.tmp 63], .some 64)), (.some (60, .true), (.len .false (.tmp 64), .some 65)), (.some (60, .true), (.bin .eql (.tmp 62) (.tmp 65), .some 66)), (none, (.pick (.tmp 60) (.tmp 66) (.const (.bool .false)), .some 67)), (none, (.mov (.tmp 67), .some 68)), (.some (68, .true), (.call (.func 63) [], .some 69)), (none, (.pick (.tmp 68) (.tmp 69) (.const (.bool .false)), .some 70)), (none, (.mov (.tmp 70), .some 6))] []) .ret))))))))
theorem b17 : Try.f17.body.bind (compC Try.prog) = some c17 := by kernel_rfl
theorem r17 : compR Try.prog Try.f17 = .some [.tmp 6] := by kernel_rfl
theorem n17 : (Try.f17.name == "runtime.NumGoroutine") = false := by kernel_rfl
def c18 : C := .seq
  (.reg [(none, (.mov (.const (.bool .false)), .some 6))] []) (.seq (.seq
  (.reg [(none, (.mov (.tmp 2), .some 13)), (none, (.len .false (.tmp 13), .some 14)), (none, (.bin .gtr (.tmp 14) (.const (.int .i64 300)), .some 15))] []) (.cond (.tmp 15) (.seq
  (.reg [(none, (.call (.func 57) [], .some 16)), (none, (.mov (.tmp 16), .some 6))] []) .ret) .skip)) (.seq (.seq
  (.reg [(none, (.mov (.tmp 0), .some 17)), (none, (.call (.func 92) [.tmp 17], .some 18)), (none, (.mov (.tmp 0), .some 19)), (none, (.call (.func 93) [.tmp 19], .some 20)), (none, (.bin .neq (.tmp 18) (.tmp 20), .some 21)), (none, (.mov (.tmp 21), .some 22)), (.some (22, .false), (.mov (.tmp 1), .some 23)), (.some (22, .false), (.call (.func 94) [.tmp 23], .some 24)), (.some (22, .false), (.mov (.tmp 1), .some 25)), (.some (22, .false), (.call (.func 95) [.tmp 25], .some 26)), (.some (22, .false), (.bin .neq (.tmp 24) (.tmp 26), .some 27)), (none, (.pick (.tmp 22) (.const (.bool .true)) (.tmp 27), .some 28)), (none, (.mov (.tmp 28), .some 29)), (.some (29, .false), (.mov (.tmp 0), .some 30)), (.some (29, .false), (.call (.func 92) [.tmp 30], .some 31)), (.some (29, .false), (.call (.func 94) [.tmp 31], .some 32)), (.some (29, .false), (.mov (.tmp 0), .some 33)), (.some (29, .false), (.bin .neq (.tmp 32) (.tmp 33), .some 34)), (none, (.pick (.tmp 29) (.const (.bool .true)) (.tmp 34), .some 35)), (none, (.mov (.tmp 35), .some 36)), (.some (36, .false), (.mov (.tmp 1), .some 37)), (.some (36, .false), (.call (.func 94) [.tmp 37], .some 38)), (.some (36, .false), (.call (.func 92) [.tmp 38], .some 39)), (.some (36, .false), (.mov (.tmp 1), .some 40)), (.some (36, .false), (.bin .neq (.tmp 39) (.tmp 40), .some 41)), (none, (.pick (.tmp 36) (.const (.bool .true)) (.tmp 41), .some 42))] []) (.cond (.tmp 42) (.seq
  (.reg [(none, (.mov (.const (.bool .false)), .some 6))] []) .ret) .skip)) (.seq
  (.reg [(none, (.call (.func 37) [.const (.int .i64 20)], .some 43)), (none, (.mov (.tmp 43), .some 7))] []) (.seq
  (.reg [(none, (.mov (.tmp 7), .some 44)), (none, (.mov (.tmp 0), .some 45)), (none, (.call (.func 96) [.tmp 44, .tmp 45], .some 46))] []) (.seq
  (.reg [(none, (.mov (.tmp 7), .some 48)), (none, (.call (.func 40) [.tmp 48], .some 49)), (none, (.mov (.tmp 49), .some 47)), (none, (.ext (.tmp 47) 0, .some 50)), (none, (.ext (.tmp 47) 1, .some 51)), (none, (.mov (.tmp 50), .some 8)), (none, (.mov (.tmp 51), .some 9))] []) (.seq
  (.reg [(none, (.mov (.tmp 2), .some 52)), (none, (.call (.func 73) [.tmp 52], .some 53)), (none, (.mov (.tmp 53), .some 10))] []) (.seq
  (.reg [(none, (.mov (.tmp 2), .some 55)), (none, (.build [.slice none 0 0, .int .i64 0, .int .i64 0, .int .i64 0] [(0, (1, .tmp 55))], .some 56)), (none, (.call (.func 82) [.tmp 56], .some 57)), (none, (.mov (.tmp 57), .some 54)), (none, (.ext (.tmp 54) 0, .some 58)), (none, (.ext (.tmp 54) 1, .some 59)), (none, (.new [.slice none 0 0, .int .i64 0, .int .i64 0, .int .i64 0], .some 11)), (none, (.store 4 (.tmp 11) (.tmp 58), none)), (none, (.mov (.tmp 59), .some 12))] []) (.seq
  (.reg [(none, (.mov (.tmp 8), .some 60)), (none, (.mov (.tmp 0), .some 61)), (none, (.call (.func 93) [.tmp 61], .some 62)), (none, (.call (.func 42) [.tmp 62], .some 63)), (none, (.call (.func 41) [.tmp 60, .tmp 63], .some 64)), (none, (.mov (.tmp 64), .some 65)), (.some (65, .true), (.mov (.tmp 10), .some 66)), (.some (65, .true), (.call (.func 97) [.tmp 66], .some 67)), (.some (65, .true), (.mov (.tmp 12), .some 68)), (.some (65, .true), (.call (.func 95) [.tmp 68], .some 69)), (.some (65, .true), (.bin .eql (.tmp 67) (.tmp 69), .some 70)), (none, (.pick (.tmp 65) (.tmp 70) (.const (.bool .false)), .some 71)), (none, (.mov (.tmp 71), .some 72)), (.some (72, .true), (.mov (.tmp 10), .some 73)), (.some (72, .true), (.call (.func 78) [.tmp 73], .some 74)), (.some (72, .true), (.fadr 2 (.tmp 11), .some 75)), (.some (72, .true), (.load (.some 2) (.tmp 75), .some 76)), (.some (72, .true), (.eqa .false 2 (.tmp 74) (.tmp 76), .some 77)), (none, (.pick (.tmp 72) (.tmp 77) (.const (.bool .false)), .some 78)), (none, (.mov (.tmp 78), .some 79)), (.some (79, .true), (.call (.func 57) [], .some 80)), (none, (.pick (.tmp 79) (.tmp 80) (.const (.bool .false)), .some 81)), (none, (.mov (.tmp 81), .some 6))] [(14, 16)]) .ret))))))))
theorem b18 : Try.f18.body.bind (compC Try.prog) = some c18 := by kernel_rfl
theorem r18 : compR Try.prog Try.f18 = .some [.tmp 6] := by kernel_rfl
theorem n18 : (Try.f18.name == "runtime.NumGoroutine") = false := by kernel_rfl
def c25 : C := .seq
  (.reg [(none, (.mov (.const (.bool .false)), .some 6))] []) (.seq (.seq
  (.reg [(none, (.mov (.tmp 1), .some 12)), (none, (.len .false (.tmp 12), .some 13)), (none, (.bin .gtr (.tmp 13) (.const (.int .i64 200)), .some 14)), (none, (.mov (.tmp 14), .some 15)), (.some (15, .false), (.mov (.tmp 2), .some 16)), (.some (15, .false), (.len .false (.tmp 16), .some 17)), (.some (15, .false), (.bin .gtr (.tmp 17) (.const (.int .i64 300)), .some 18)), (none, (.pick (.tmp 15) (.const (.bool .true)) (.tmp 18), .some 19))] []) (.cond (.tmp 19) (.seq
  (.reg [(none, (.call (.func 51) [], .some 20)), (none, (.mov (.tmp 20), .some 6))] []) .ret) .skip)) (.seq
  (.reg [(none, (.call (.func 37) [.const (.int .i64 3000)], .some 21)), (none, (.mov (.tmp 21), .some 7))] []) (.seq
  (.reg [(none, (.mov (.tmp 7), .some 22)), (none, (.mov (.tmp 0), .some 23)), (none, (.mov (.tmp 1), .some 24)), (none, (.call (.func 112) [.tmp 22, .tmp 23, .tmp 24], .some 25))] []) (.seq
  (.reg [(none, (.mov (.tmp 7), .some 27)), (none, (.call (.func 40) [.tmp 27], .some 28)), (none, (.mov (.tmp 28), .some 26)), (none, (.ext (.tmp 26) 0, .some 29)), (none, (.ext (.tmp 26) 1, .some 30)), (none, (.mov (.tmp 29), .some 8)), (none, (.mov (.tmp 30), .some 9))] []) (.seq (.seq
  (.reg [(none, (.mov (.tmp 0), .some 31)), (none, (.mov (.tmp 1), .some 32)), (none, (.call (.func 50) [.tmp 31, .tmp 32], .some 33)), (none, (.un .not (.tmp 33), .some 34))] []) (.cond (.tmp 34) (.seq
  (.reg [(none, (.mov (.tmp 9), .some 35)), (none, (.bin .eql (.tmp 35) (.const (.int .i64 3)), .some 36)), (none, (.mov (.tmp 36), .some 37)), (.some (37, .true), (.mov (.tmp 8), .some 38)), (.some (37, .true), (.len .false (.tmp 38), .some 39)), (.some (37, .true), (.bin .eql (.tmp 39) (.const (.int .i64 0)), .some 40)), (none, (.pick (.tmp 37) (.tmp 40) (.const (.bool .false)), .some 41)), (none, (.mov (.tmp 41), .some 42)), (.some (42, .true), (.mov (.tmp 0), .some 43)), (.some (42, .true), (.mov (.tmp 1), .some 44)), (.some (42, .true), (.call (.func 113) [.tmp 43, .tmp 44], .some 45)), (.some (42, .true), (.bin .eql (.tmp 45) (.const (.int .i64 0)), .some 46)), (none, (.pick (.tmp 42) (.tmp 46) (.const (.bool .false)), .some 47)), (none, (.mov (.tmp 47), .some 48)), (.some (48, .true), (.call (.func 51) [], .some 49)), (none, (.pick (.tmp 48) (.tmp 49) (.const (.bool .false)), .some 50)), (none, (.mov (.tmp 50), .some 6))] []) .ret) .skip)) (.seq
  (.reg [(none, (.bsl 1 [], .some 51)), (none, (.mov (.tmp 8), .some 52)), (none, (.app 1 1 (.tmp 51) (.tmp 52), .some 53)), (none, (.mov (.tmp 2), .some 54)), (none, (.app 1 1 (.tmp 53) (.tmp 54), .some 55)), (none, (.call (.func 73) [.tmp 55], .some 56)), (none, (.mov (.tmp 56), .some 10))] []) (.seq
  (.reg [(none, (.mov (.tmp 10), .some 57)), (none, (.mov (.tmp 0), .some 58)), (none, (.call (.func 103) [.tmp 57, .tmp 58, .const (.int .i64 200)], .some 59)), (none, (.mov (.tmp 59), .some 11))] []) (.seq
  (.reg [(none, (.mov (.tmp 9), .some 60)), (none, (.bin .eql (.tmp 60) (.const (.int .i64 0)), .some 61)), (none, (.mov (.tmp 61), .some 62)), (.some (62, .true), (.mov (.tmp 8), .some 63)), (.some (62, .true), (.mov (.tmp 0), .some 64)), (.some (62, .true), (.mov (.tmp 1), .some 65)), (.some (62, .true), (.call (.func 105) [.tmp 64, .tmp 65], .some 66)), (.some (62, .true), (.call (.func 41) [.tmp 63, .tmp 66], .some 67)), (none, (.pick (.tmp 62) (.tmp 67) (.const (.bool .false)), .some 68)), (none, (.mov (.tmp 68), .some 69)), (.some (69, .true), (.mov (.tmp 0), .some 70)), (.some (69, .true), (.mov (.tmp 1), .some 71)), (.some (69, .true), (.call (.func 113) [.tmp 70, .tmp 71], .some 72)), (.some (69, .true), (.mov (.tmp 8), .some 73)), (.some (69, .true), (.len .false (.tmp 73), .some 74)), (.some (69, .true), (.bin .eql (.tmp 72) (.tmp 74), .some 75)), (none, (.pick (.tmp 69) (.tmp 75) (.const (.bool .false)), .some 76)), (none, (.mov (.tmp 76), .some 77)), (.some (77, .true), (.mov (.tmp 10), .some 78)), (.some (77, .true), (.call (.func 102) [.tmp 78], .some 79)), (none, (.pick (.tmp 77) (.tmp 79) (.const (.bool .false)), .some 80)), (none, (.mov (.tmp 80), .some 81)), (.some (81, .true), (.mov (.tmp 10), .some 82)), (.some (81, .true), (.call (.func 79) [.tmp 82], .some 83)), (.some (81, .true), (.mov (.tmp 8), .some 84)), (.some (81, .true), (.len .false (.tmp 84), .some 85)), (.some (81, .true), (.bin .eql (.tmp 83) (.tmp 85), .some 86)), (none, (.pick (.tmp 81) (.tmp 86) (.const (.bool .false)), .some 87)), (none, (.mov (.tmp 87), .some 88)), (.some (88, .true), (.mov (.tmp 11), .some 89)), (.some (88, .true), (.mov (.tmp 1), .some 90)), (.some (88, .true), (.call (.func 54) [.tmp 89, .tmp 90], .some 91)), (none, (.pick (.tmp 88) (.tmp 91) (.const (.bool .false)), .some 92)), (none, (.mov (.tmp 92), .some 93)), (.some (93, .true), (.call (.func 51) [], .some 94)), (none, (.pick (.tmp 93) (.tmp 94) (.const (.bool .false)), .some 95)), (none, (.mov (.tmp 95), .some 6))] []) .ret))))))))
theorem b25 : Try.f25.body.bind (compC Try.prog) = some c25 := by kernel_rfl
theorem r25 : compR Try.prog Try.f25 = .some [.tmp 6] := by kernel_rfl
theorem n25 : (Try.f25.name == "runtime.NumGoroutine") = false := by kernel_rfl
def c26 : C := .seq
  (.reg [(none, (.mov (.const (.bool .false)), .some 2))] []) (.seq (.seq
  (.reg [(none, (.mov (.tmp 0), .some 7)), (none, (.len .false (.tmp 7), .some 8)), (none, (.bin .gtr (.tmp 8) (.const (.int .i64 300)), .some 9))] []) (.cond (.tmp 9) (.seq
  (.reg [(none, (.call (.func 66) [], .some 10)), (none, (.mov (.tmp 10), .some 2))] []) .ret) .skip)) (.seq
  (.reg [(none, (.mov (.tmp 0), .some 11)), (none, (.call (.func 73) [.tmp 11], .some 12)), (none, (.mov (.tmp 12), .some 3))] []) (.seq
  (.reg [(none, (.mov (.tmp 3), .some 13)), (none, (.call (.func 114) [.tmp 13], .some 14)), (none, (.mov (.tmp 14), .some 4))] []) (.seq
  (.reg [(none, (.mov (.tmp 0), .some 16)), (none, (.build [.slice none 0 0, .int .i64 0, .int .i64 0, .int .i64 0] [(0, (1, .tmp 16))], .some 17)), (none, (.call (.func 115) [.tmp 17], .some 18)), (none, (.mov (.tmp 18), .some 15)), (none, (.ext (.tmp 15) 0, .some 19)), (none, (.ext (.tmp 15) 1, .some 20)), (none, (.new [.slice none 0 0, .int .i64 0, .int .i64 0, .int .i64 0], .some 5)), (none, (.store 4 (.tmp 5) (.tmp 19), none)), (none, (.mov (.tmp 20), .some 6))] []) (.seq (.seq
  (.reg [(none, (.mov (.tmp 4), .some 21)), (none, (.mov (.tmp 6), .some 22)), (none, (.call (.func 116) [.tmp 21, .tmp 22], .some 23)), (none, (.un .not (.tmp 23), .some 24)), (none, (.mov (.tmp 24), .some 25)), (.some (25, .false), (.mov (.tmp 3), .some 26)), (.some (25, .false), (.call (.func 78) [.tmp 26], .some 27)), (.some (25, .false), (.fadr 2 (.tmp 5), .some 28)), (.some (25, .false), (.load (.some 2) (.tmp 28), .some 29)), (.some (25, .false), (.eqa .true 2 (.tmp 27) (.tmp 29), .some 30)), (none, (.pick (.tmp 25) (.const (.bool .true)) (.tmp 30), .some 31))] [(6, 8)]) (.cond (.tmp 31) (.seq
  (.reg [(none, (.mov (.const (.bool .false)), .some 2))] []) .ret) .skip)) (.seq (.seq
  (.reg [(none, (.fadr 2 (.tmp 5), .some 32)), (none, (.fadr 0 (.tmp 32), .some 33)), (none, (.load none (.tmp 33), .some 34)), (none, (.bin .neq (.tmp 34) (.const (.int .i64 0)), .some 35))] []) (.cond (.tmp 35) (.seq
  (.reg [(none, (.call (.func 66) [], .some 36)), (none, (.mov (.tmp 36), .some 2))] []) .ret) .skip)) (.seq
  (.reg [(none, (.mov (.tmp 3), .some 37)), (none, (.call (.func 79) [.tmp 37], .some 38)), (none, (.fadr 1 (.tmp 5), .some 39)), (none, (.load none (.tmp 39), .some 40)), (none, (.bin .eql (.tmp 38) (.tmp 40), .some 41)), (none, (.mov (.tmp 41), .some 42)), (.some (42, .true), (.mov (.tmp 4), .some 43)), (.some (42, .true), (.call (.func 69) [.tmp 43], .some 44)), (none, (.pick (.tmp 42) (.tmp 44) (.const (.bool .false)), .some 45)), (none, (.mov (.tmp 45), .some 46)), (.some (46, .true), (.mov (.tmp 4), .some 47)), (.some (46, .true), (.call (.func 117) [.tmp 47], .some 48)), (.some (46, .true), (.mov (.tmp 0), .some 49)), (.some (46, .true), (.fadr 1 (.tmp 5), .some 50)), (.some (46, .true), (.load none (.tmp 50), .some 51)), (.some (46, .true), (.slice 1 (.tmp 49) none (.some (.tmp 51)) none, .some 52)), (.some (46, .true), (.call (.func 41) [.tmp 48, .tmp 52], .some 53)), (none, (.pick (.tmp 46) (.tmp 53) (.const (.bool .false)), .some 54)), (none, (.mov (.tmp 54), .some 55)), (.some (55, .true), (.call (.func 66) [], .some 56)), (none, (.pick (.tmp 55) (.tmp 56) (.const (.bool .false)), .some 57)), (none, (.mov (.tmp 57), .some 2))] [(1, 3), (11, 14)]) .ret)))))))
theorem b26 : Try.f26.body.bind (compC Try.prog) = some c26 := by kernel_rfl
theorem r26 : compR Try.prog Try.f26 = .some [.tmp 2] := by kernel_rfl
theorem n26 : (Try.f26.name == "runtime.NumGoroutine") = false := by kernel_rfl
def c30 : C := .seq
  (.reg [(none, (.mov (.const (.bool .false)), .some 0))] []) (.seq
  (.reg [(none, (.call (.func 28) [.const (.int .u64 3), .const (.bool .true), .const (.int .u64 3)], .some 1)), (none, (.bin .eql (.tmp 1) (.const (.int .i64 18)), .some 2)), (none, (.mov (.tmp 2), .some 3)), (.some (3, .true), (.call (.func 28) [.const (.int .u64 3), .const (.bool .true), .const (.int .u64 4)], .some 4)), (.some (3, .true), (.bin .eql (.tmp 4) (.const (.int .i64 13)), .some 5)), (none, (.pick (.tmp 3) (.tmp 5) (.const (.bool .false)), .some 6)), (none, (.mov (.tmp 6), .some 7)), (.some (7, .true), (.call (.func 34) [.const (.int .u64 1)], .some 8)), (none, (.pick (.tmp 7) (.tmp 8) (.const (.bool .false)), .some 9)), (none, (.mov (.tmp 9), .some 0))] []) .ret)
theorem b30 : Try.f30.body.bind (compC Try.prog) = some c30 := by kernel_rfl
theorem r30 : compR Try.prog Try.f30 = .some [.tmp 0] := by kernel_rfl
theorem n30 : (Try.f30.name == "runtime.NumGoroutine") = false := by kernel_rfl
def c31 : C := .seq
  (.reg [(none, (.mov (.const (.int .u64 0)), .some 2)), (none, (.mov (.const (.bool .false)), .some 3))] []) (.seq (.seq
  (.reg [(none, (.mov (.tmp 0), .some 4)), (none, (.call (.func 34) [.tmp 4], .some 5)), (none, (.un .not (.tmp 5), .some 6)), (none, (.mov (.tmp 6), .some 7)), (.some (7, .false), (.mov (.tmp 0), .some 8)), (.some (7, .false), (.bin .add (.tmp 8) (.const (.int .u64 1)), .some 9)), (.some (7, .false), (.call (.func 34) [.tmp 9], .some 10)), (.some (7, .false), (.un .not (.tmp 10), .some 11)), (none, (.pick (.tmp 7) (.const (.bool .true)) (.tmp 11), .some 12))] []) (.cond (.tmp 12) (.seq
  (.reg [(none, (.mov (.const (.int .u64 0)), .some 2)), (none, (.mov (.const (.bool .false)), .some 3))] []) .ret) .skip)) (.seq
  (.reg [(none, (.mov (.tmp 0), .some 13)), (none, (.bin .add (.tmp 13) (.const (.int .u64 1)), .some 14)), (none, (.mov (.tmp 14), .some 2)), (none, (.mov (.const (.bool .true)), .some 3))] []) .ret))
theorem b31 : Try.f31.body.bind (compC Try.prog) = some c31 := by kernel_rfl
theorem r31 : compR Try.prog Try.f31 = .some [.tmp 2, .tmp 3] := by kernel_rfl
theorem n31 : (Try.f31.name == "runtime.NumGoroutine") = false := by kernel_rfl
def c34 : C := .seq
  (.reg [(none, (.mov (.const (.bool .false)), .some 2))] []) (.seq
  (.reg [(none, (.mov (.tmp 0), .some 3)), (none, (.bin .geq (.tmp 3) (.const (.int .u64 1)), .some 4)), (none, (.mov (.tmp 4), .some 5)), (.some (5, .true), (.mov (.tmp 0), .some 6)), (.some (5, .true), (.bin .lss (.tmp 6) (.const (.int .u64 4611686018427387904)), .some 7)), (none, (.pick (.tmp 5) (.tmp 7) (.const (.bool .false)), .some 8)), (none, (.mov (.tmp 8), .some 2))] []) .ret)
theorem b34 : Try.f34.body.bind (compC Try.prog) = some c34 := by kernel_rfl
theorem r34 : compR Try.prog Try.f34 = .some [.tmp 2] := by kernel_rfl
theorem n34 : (Try.f34.name == "runtime.NumGoroutine") = false := by kernel_rfl
def c37 : C := .seq
  (.reg [(none, (.mov (.const (.pointer none)), .some 2))] []) (.seq
  (.reg [(none, (.mov (.tmp 0), .some 3)), (none, (.mx .true (.tmp 3) (.const (.int .i64 0)), .some 4)), (none, (.build [.int .i64 0, .slice none 0 0, .int .i64 0] [(0, (1, .tmp 4))], .some 5)), (none, (.box (.tmp 5), .some 6)), (none, (.mov (.tmp 6), .some 2))] []) .ret)
theorem b37 : Try.f37.body.bind (compC Try.prog) = some c37 := by kernel_rfl
theorem r37 : compR Try.prog Try.f37 = .some [.tmp 2] := by kernel_rfl
theorem n37 : (Try.f37.name == "runtime.NumGoroutine") = false := by kernel_rfl
def c44 : C := .seq
  (.reg [(none, (.mov (.tmp 0), .some 4)), (none, (.mov (.tmp 1), .some 5)), (none, (.len .false (.tmp 5), .some 6)), (none, (.cvt .u64 (.tmp 6), .some 7)), (none, (.call (.func 91) [.tmp 4, .tmp 7], .some 8))] [])
  (.reg [(none, (.mov (.tmp 0), .some 9)), (none, (.mov (.tmp 1), .some 10)), (none, (.call (.func 90) [.tmp 9, .tmp 10], .some 11))] [])
theorem b44 : Try.f44.body.bind (compC Try.prog) = some c44 := by kernel_rfl
theorem r44 : compR Try.prog Try.f44 = .some [] := by kernel_rfl
theorem n44 : (Try.f44.name == "runtime.NumGoroutine") = false := by kernel_rfl
def c50 : C := .seq
  (.reg [(none, (.mov (.const (.bool .false)), .some 4))] []) (.seq (.seq
  (.reg [(none, (.mov (.const (.int .i64 0)), .some 5))] []) (.block 0 (.loop (.seq (.seq
  (.reg [(none, (.mov (.tmp 5), .some 6)), (none, (.mov (.tmp 1), .some 7)), (none, (.len .false (.tmp 7), .some 8)), (none, (.bin .lss (.tmp 6) (.tmp 8), .some 9))] []) (.cond (.tmp 9) .skip (.exit 0))) (.seq (.block 1 (.seq
  (.reg [(none, (.mov (.tmp 5), .some 12)), (none, (.bin .eql (.tmp 12) (.const (.int .i64 0)), .some 13)), (none, (.mov (.tmp 13), .some 14)), (.some (14, .true), (.mov (.tmp 1), .some 15)), (.some (14, .true), (.iadr 1 (.tmp 15) (.const (.int .i64 0)), .some 16)), (.some (14, .true), (.load none (.tmp 16), .some 17)), (.some (14, .true), (.mov (.tmp 0), .some 18)), (.some (14, .true), (.bin .geq (.tmp 17) (.tmp 18), .some 19)), (none, (.pick (.tmp 14) (.tmp 19) (.const (.bool .false)), .some 20)), (none, (.mov (.tmp 20), .some 21)), (.some (21, .false), (.mov (.tmp 5), .some 22)), (.some (21, .false), (.bin .gtr (.tmp 22) (.const (.int .i64 0)), .some 23)), (.some (21, .false), (.mov (.tmp 23), .some 24)), (.some (24, .true), (.mov (.tmp 1), .some 25)), (.some (24, .true), (.mov (.tmp 5), .some 26)), (.some (24, .true), (.iadr 1 (.tmp 25) (.tmp 26), .some 27)), (.some (24, .true), (.load none (.tmp 27), .some 28)), (.some (24, .true), (.mov (.tmp 1), .some 29)), (.some (24, .true), (.mov (.tmp 5), .some 30)), (.some (24, .true), (.bin .sub (.tmp 30) (.const (.int .i64 1)), .some 31)), (.some (24, .true), (.iadr 1 (.tmp 29) (.tmp 31), .some 32)), (.some (24, .true), (.load none (.tmp 32), .some 33)), (.some (24, .true), (.bin .geq (.tmp 28) (.tmp 33), .some 34)), (.some (21, .false), (.pick (.tmp 24) (.tmp 34) (.const (.bool .false)), .some 35)), (none, (.pick (.tmp 21) (.const (.bool .true)) (.tmp 35), .some 36))] [(16, 21)]) (.cond (.tmp 36) (.seq
  (.reg [(none, (.mov (.const (.bool .false)), .some 4))] []) .ret) .skip)))
  (.reg [(none, (.mov (.tmp 5), .some 10)), (none, (.bin .add (.tmp 10) (.const (.int .i64 1)), .some 11)), (none, (.mov (.tmp 11), .some 5))] [])))))) (.seq
  (.reg [(none, (.mov (.const (.bool .true)), .some 4))] []) .ret))
theorem b50 : Try.f50.body.bind (compC Try.prog) = some c50 := by kernel_rfl
theorem r50 : compR Try.prog Try.f50 = .some [.tmp 4] := by kernel_rfl
theorem n50 : (Try.f50.name == "runtime.NumGoroutine") = false := by kernel_rfl
def c52 : C := .seq
  (.reg [(none, (.mov (.const (.slice none 0 0)), .some 4)), (none, (.mov (.const (.bool .false)), .some 5))] []) (.seq
  (.reg [(none, (.mov (.const (.slice none 0 0)), .some 6))] []) (.seq (.seq
  (.reg [(none, (.mov (.tmp 1), .some 9)), (none, (.len .false (.tmp 9), .some 10)), (none, (.mov (.const (.int .i64 0)), .some 11))] []) (.block 0 (.loop (.seq
  (.reg [(none, (.bin .lss (.tmp 11) (.tmp 10), .some 12))] []) (.seq (.cond (.tmp 12) .skip (.exit 0)) (.seq (.block 1 (.seq
  (.reg [(none, (.iadr 1 (.tmp 9) (.tmp 11), .some 13)), (none, (.load none (.tmp 13), .some 14)), (none, (.mov (.tmp 14), .some 8))] []) (.seq (.seq
  (.reg [(none, (.mov (.tmp 8), .some 15)), (none, (.mov (.tmp 0), .some 16)), (none, (.bin .geq (.tmp 15) (.tmp 16), .some 17))] []) (.cond (.tmp 17) (.seq
  (.reg [(none, (.mov (.const (.slice none 0 0)), .some 4)), (none, (.mov (.const (.bool .false)), .some 5))] []) .ret) .skip)) (.seq
  (.reg [(none, (.mov (.tmp 6), .some 18)), (none, (.mov (.tmp 0), .some 19)), (none, (.mov (.tmp 8), .some 20)), (none, (.bin .sub (.tmp 19) (.tmp 20), .some 21)), (none, (.bin .sub (.tmp 21) (.const (.int .u64 1)), .some 22)), (none, (.bsl 1 [.tmp 22], .some 23)), (none, (.app 1 8 (.tmp 18) (.tmp 23), .some 24)), (none, (.mov (.tmp 24), .some 6))] [])
  (.reg [(none, (.mov (.tmp 8), .some 25)), (none, (.mov (.tmp 25), .some 0))] [])))))
  (.reg [(none, (.bin .add (.tmp 11) (.const (.int .i64 1)), .some 26)), (none, (.mov (.tmp 26), .some 11))] []))))))) (.seq
  (.reg [(none, (.mov (.tmp 6), .some 27)), (none, (.mov (.tmp 27), .some 4)), (none, (.mov (.const (.bool .true)), .some 5))] []) .ret)))
theorem b52 : Try.f52.body.bind (compC Try.prog) = some c52 := by kernel_rfl
theorem r52 : compR Try.prog Try.f52 = .some [.tmp 4, .tmp 5] := by kernel_rfl
theorem n52 : (Try.f52.name == "runtime.NumGoroutine") = false := by kernel_rfl
def c60 : C := .seq
  (.reg [(none, (.mov (.const (.bool .false)), .some 2))] []) (.seq (.seq
  (.reg [(none, (.mov (.const (.int .i64 1)), .some 3))] []) (.block 0 (.loop (.seq (.seq
  (.reg [(none, (.mov (.tmp 3), .some 4)), (none, (.mov (.tmp 0), .some 5)), (none, (.len .false (.tmp 5), .some 6)), (none, (.bin .lss (.tmp 4) (.tmp 6), .some 7))] []) (.cond (.tmp 7) .skip (.exit 0))) (.seq (.block 1 (.seq
  (.reg [(none, (.mov (.tmp 0), .some 10)), (none, (.mov (.tmp 3), .some 11)), (none, (.iadr 1 (.tmp 10) (.tmp 11), .some 12)), (none, (.load none (.tmp 12), .some 13)), (none, (.mov (.tmp 0), .some 14)), (none, (.mov (.tmp 3), .some 15)), (none, (.bin .sub (.tmp 15) (.const (.int .i64 1)), .some 16)), (none, (.iadr 1 (.tmp 14) (.tmp 16), .some 17)), (none, (.load none (.tmp 17), .some 18)), (none, (.bin .leq (.tmp 13) (.tmp 18), .some 19))] [(3, 8)]) (.cond (.tmp 19) (.seq
  (.reg [(none, (.mov (.const (.bool .false)), .some 2))] []) .ret) .skip)))
  (.reg [(none, (.mov (.tmp 3), .some 8)), (none, (.bin .add (.tmp 8) (.const (.int .i64 1)), .some 9)), (none, (.mov (.tmp 9), .some 3))] [])))))) (.seq
  (.reg [(none, (.mov (.const (.bool .true)), .some 2))] []) .ret))
theorem b60 : Try.f60.body.bind (compC Try.prog) = some c60 := by kernel_rfl
theorem r60 : compR Try.prog Try.f60 = .some [.tmp 2] := by kernel_rfl
theorem n60 : (Try.f60.name == "runtime.NumGoroutine") = false := by kernel_rfl
def c62 : C := .seq
  (.reg [(none, (.mov (.const (.slice none 0 0)), .some 2))] []) (.seq
  (.reg [(none, (.mov (.const (.slice none 0 0)), .some 3))] []) (.seq (.seq
  (.reg [(none, (.mov (.const (.int .i64 0)), .some 4))] []) (.block 0 (.loop (.seq (.seq
  (.reg [(none, (.mov (.tmp 4), .some 5)), (none, (.mov (.tmp 0), .some 6)), (none, (.len .false (.tmp 6), .some 7)), (none, (.bin .lss (.tmp 5) (.tmp 7), .some 8))] []) (.cond (.tmp 8) .skip (.exit 0))) (.seq (.block 1 (.seq
  (.reg [(none, (.mov (.tmp 4), .some 11)), (none, (.bin .eql (.tmp 11) (.const (.int .i64 0)), .some 12))] []) (.cond (.tmp 12)
  (.reg [(none, (.mov (.tmp 3), .some 13)), (none, (.mov (.tmp 0), .some 14)), (none, (.iadr 1 (.tmp 14) (.const (.int .i64 0)), .some 15)), (none, (.load none (.tmp 15), .some 16)), (none, (.call (.func 42) [.tmp 16], .some 17)), (none, (.app 1 1 (.tmp 13) (.tmp 17), .some 18)), (none, (.mov (.tmp 18), .some 3))] [])
  (.reg [(none, (.mov (.tmp 3), .some 19)), (none, (.mov (.tmp 0), .some 20)), (none, (.mov (.tmp 4), .some 21)), (none, (.iadr 1 (.tmp 20) (.tmp 21), .some 22)), (none, (.load none (.tmp 22), .some 23)), (none, (.mov (.tmp 0), .some 24)), (none, (.mov (.tmp 4), .some 25)), (none, (.bin .sub (.tmp 25) (.const (.int .i64 1)), .some 26)), (none, (.iadr 1 (.tmp 24) (.tmp 26), .some 27)), (none, (.load none (.tmp 27), .some 28)), (none, (.bin .sub (.tmp 23) (.tmp 28), .some 29)), (none, (.bin .sub (.tmp 29) (.const (.int .u64 1)), .some 30)), (none, (.call (.func 42) [.tmp 30], .some 31)), (none, (.app 1 1 (.tmp 19) (.tmp 31), .some 32)), (none, (.mov (.tmp 32), .some 3))] [(4, 9)]))))
  (.reg [(none, (.mov (.tmp 4), .some 9)), (none, (.bin .add (.tmp 9) (.const (.int .i64 1)), .some 10)), (none, (.mov (.tmp 10), .some 4))] [])))))) (.seq
  (.reg [(none, (.mov (.tmp 3), .some 33)), (none, (.mov (.tmp 33), .some 2))] []) .ret)))
theorem b62 : Try.f62.body.bind (compC Try.prog) = some c62 := by kernel_rfl
theorem r62 : compR Try.prog Try.f62 = .some [.tmp 2] := by kernel_rfl
theorem n62 : (Try.f62.name == "runtime.NumGoroutine") = false := by kernel_rfl
def c63 : C := .seq
  (.reg [(none, (.mov (.const (.bool .false)), .some 0))] []) (.seq
  (.reg [(none, (.bsl 1 [.const (.int .u8 128), .const (.int .u8 0)], .some 8)), (none, (.call (.func 64) [.tmp 8], .some 9)), (none, (.mov (.tmp 9), .some 7)), (none, (.ext (.tmp 7) 0, .some 10)), (none, (.ext (.tmp 7) 1, .some 11)), (none, (.ext (.tmp 7) 2, .some 12)), (none, (.new [.int .i64 0, .int .i64 0], .some 3)), (none, (.mov (.tmp 10), .some 1)), (none, (.mov (.tmp 11), .some 2)), (none, (.store 2 (.tmp 3) (.tmp 12), none))] []) (.seq
  (.reg [(none, (.bsl 1 [.const (.int .u8 128)], .some 14)), (none, (.call (.func 64) [.tmp 14], .some 15)), (none, (.mov (.tmp 15), .some 13)), (none, (.ext (.tmp 13) 0, .some 16)), (none, (.ext (.tmp 13) 1, .some 17)), (none, (.ext (.tmp 13) 2, .some 18)), (none, (.new [.int .i64 0, .int .i64 0], .some 6)), (none, (.mov (.tmp 16), .some 4)), (none, (.mov (.tmp 17), .some 5)), (none, (.store 2 (.tmp 6) (.tmp 18), none))] []) (.seq
  (.reg [(none, (.call (.func 65) [.const (.int .u64 300)], .some 19)), (none, (.bsl 1 [.const (.int .u8 172), .const (.int .u8 2)], .some 20)), (none, (.call (.func 41) [.tmp 19, .tmp 20], .some 21)), (none, (.mov (.tmp 21), .some 22)), (.some (22, .true), (.load (.some 2) (.tmp 3), .some 23)), (.some (22, .true), (.build [.int .i64 0, .int .i64 0] [(0, (1, .const (.int .i64 4))), (1, (1, .const (.int .i64 1)))], .some 24)), (.some (22, .true), (.eqa .false 2 (.tmp 23) (.tmp 24), .some 25)), (none, (.pick (.tmp 22) (.tmp 25) (.const (.bool .false)), .some 26)), (none, (.mov (.tmp 26), .some 27)), (.some (27, .true), (.load (.some 2) (.tmp 6), .some 28)), (.some (27, .true), (.build [.int .i64 0, .int .i64 0] [(0, (1, .const (.int .i64 1))), (1, (1, .const (.int .i64 1)))], .some 29)), (.some (27, .true), (.eqa .false 2 (.tmp 28) (.tmp 29), .some 30)), (none, (.pick (.tmp 27) (.tmp 30) (.const (.bool .false)), .some 31)), (none, (.mov (.tmp 31), .some 0))] []) .ret)))
theorem b63 : Try.f63.body.bind (compC Try.prog) = some c63 := by kernel_rfl
theorem r63 : compR Try.prog Try.f63 = .some [.tmp 0] := by kernel_rfl
theorem n63 : (Try.f63.name == "runtime.NumGoroutine") = false := by kernel_rfl
def c65 : C := .seq
  (.reg [(none, (.mov (.const (.slice none 0 0)), .some 2))] []) (.seq
  (.reg [(none, (.mov (.const (.slice none 0 0)), .some 3))] []) (.seq (.block 0 (.loop (.seq (.seq
  (.reg [(none, (.mov (.tmp 0), .some 4)), (none, (.bin .geq (.tmp 4) (.const (.int .u64 128)), .some 5))] []) (.cond (.tmp 5) .skip (.exit 0))) (.block 1 (.seq
  (.reg [(none, (.mov (.tmp 3), .some 6)), (none, (.mov (.tmp 0), .some 7)), (none, (.cvt .u8 (.tmp 7), .some 8)), (none, (.bin .or (.tmp 8) (.const (.int .u8 128)), .some 9)), (none, (.bsl 1 [.tmp 9], .some 10)), (none, (.app 1 1 (.tmp 6) (.tmp 10), .some 11)), (none, (.mov (.tmp 11), .some 3))] [])
  (.reg [(none, (.mov (.tmp 0), .some 12)), (none, (.bin .shr (.tmp 12) (.const (.int .u64 7)), .some 13)), (none, (.mov (.tmp 13), .some 0))] [])))))) (.seq
  (.reg [(none, (.mov (.tmp 3), .some 14)), (none, (.mov (.tmp 0), .some 15)), (none, (.cvt .u8 (.tmp 15), .some 16)), (none, (.bsl 1 [.tmp 16], .some 17)), (none, (.app 1 1 (.tmp 14) (.tmp 17), .some 18)), (none, (.mov (.tmp 18), .some 2))] []) .ret)))
theorem b65 : Try.f65.body.bind (compC Try.prog) = some c65 := by kernel_rfl
theorem r65 : compR Try.prog Try.f65 = .some [.tmp 2] := by kernel_rfl
theorem n65 : (Try.f65.name == "runtime.NumGoroutine") = false := by kernel_rfl
def c66 : C := .seq
  (.reg [(none, (.mov (.const (.bool .false)), .some 0))] []) (.seq
  (.reg [(none, (.build [.int .u64 0, .int .i64 0, .int .i64 0] [(0, (1, .const (.int .u64 5))), (1, (1, .const (.int .i64 3))), (2, (1, .const (.int .i64 10)))], .some 4)), (none, (.build [.int .u64 0, .int .i64 0, .int .i64 0] [(0, (1, .const (.int .u64 9))), (1, (1, .const (.int .i64 1))), (2, (1, .const (.int .i64 40)))], .some 5)), (none, (.bsl 3 [.tmp 4, .tmp 5], .some 6)), (none, (.call (.func 118) [.tmp 6], .some 7)), (none, (.mov (.tmp 7), .some 3)), (none, (.ext (.tmp 3) 0, .some 8)), (none, (.ext (.tmp 3) 1, .some 9)), (none, (.mov (.tmp 8), .some 1)), (none, (.mov (.tmp 9), .some 2))] []) (.seq
  (.reg [(none, (.mov (.tmp 2), .some 10)), (none, (.bin .eql (.tmp 10) (.const (.int .i64 0)), .some 11)), (none, (.mov (.tmp 11), .some 12)), (.some (12, .true), (.mov (.tmp 1), .some 13)), (.some (12, .true), (.bsl 1 [.const (.int .u8 2), .const (.int .u8 5), .const (.int .u8 3), .const (.int .u8 9), .const (.int .u8 1), .const (.int .u8 1), .const (.int .u8 29)], .some 14)), (.some (12, .true), (.call (.func 41) [.tmp 13, .tmp 14], .some 15)), (none, (.pick (.tmp 12) (.tmp 15) (.const (.bool .false)), .some 16)), (none, (.mov (.tmp 16), .some 0))] []) .ret))
theorem b66 : Try.f66.body.bind (compC Try.prog) = some c66 := by kernel_rfl
theorem r66 : compR Try.prog Try.f66 = .some [.tmp 0] := by kernel_rfl
theorem n66 : (Try.f66.name == "runtime.NumGoroutine") = false := by kernel_rfl
def c70 : C := .seq
  (.reg [(none, (.new [.int .u64 0, .int .i64 0, .int .i64 0], .some 4)), (none, (.mov (.const (.bool .false)), .some 5))] []) (.scope (.seq
  (.reg [(none, (.mov (.tmp 0), .some 10)), (none, (.len .false (.tmp 10), .some 11)), (none, (.mov (.const (.int .i64 0)), .some 6)), (none, (.mov (.tmp 11), .some 7)), (none, (.mov (.const (.int .i64 0)), .some 8))] []) (.seq (.seq
  (.reg [(none, (.mov (.tmp 0), .some 12)), (none, (.call (.func 120) [.tmp 12], .some 13)), (none, (.un .not (.tmp 13), .some 14))] []) (.cond (.tmp 14) (.seq
  (.reg [(none, (.build [.int .u64 0, .int .i64 0, .int .i64 0] [], .some 15)), (none, (.store 3 (.tmp 4) (.tmp 15), none)), (none, (.mov (.const (.bool .false)), .some 5))] []) .ret) .skip)) (.seq (.label 0) (.seq (.seq
  (.reg [(none, (.mov (.tmp 6), .some 16)), (none, (.mov (.tmp 7), .some 17)), (none, (.bin .eql (.tmp 16) (.tmp 17), .some 18))] []) (.cond (.tmp 18) (.seq
  (.reg [(none, (.build [.int .u64 0, .int .i64 0, .int .i64 0] [], .some 19)), (none, (.store 3 (.tmp 4) (.tmp 19), none)), (none, (.mov (.const (.bool .false)), .some 5))] []) .ret) .skip)) (.seq
  (.reg [(none, (.mov (.tmp 6), .some 20)), (none, (.mov (.tmp 7), .some 21)), (none, (.bin .add (.tmp 20) (.tmp 21), .some 22)), (none, (.bin .quo (.tmp 22) (.const (.int .i64 2)), .some 23)), (none, (.mov (.tmp 23), .some 8))] []) (.seq (.seq
  (.reg [(none, (.mov (.tmp 0), .some 24)), (none, (.mov (.tmp 8), .some 25)), (none, (.iadr 3 (.tmp 24) (.tmp 25), .some 26)), (none, (.load (.some 3) (.tmp 26), .some 27)), (none, (.new [.int .u64 0, .int .i64 0, .int .i64 0], .some 9)), (none, (.store 3 (.tmp 9) (.tmp 27), none))] []) (.block 0 (.seq
  (.reg [(none, (.mov (.tmp 1), .some 30)), (none, (.fadr 0 (.tmp 9), .some 31)), (none, (.load none (.tmp 31), .some 32)), (none, (.bin .lss (.tmp 30) (.tmp 32), .some 33)), (none, (.mov (.tmp 33), .some 29))] []) (.cond (.tmp 29)
  (.reg [(none, (.mov (.tmp 8), .some 34)), (none, (.mov (.tmp 34), .some 7))] []) (.seq
  (.reg [(none, (.mov (.tmp 1), .some 36)), (none, (.load (.some 3) (.tmp 9), .some 37)), (none, (.call (.func 126) [.tmp 37], .some 38)), (none, (.bin .geq (.tmp 36) (.tmp 38), .some 39)), (none, (.mov (.tmp 39), .some 35))] []) (.cond (.tmp 35)
  (.reg [(none, (.mov (.tmp 8), .some 40)), (none, (.bin .add (.tmp 40) (.const (.int .i64 1)), .some 41)), (none, (.mov (.tmp 41), .some 6))] []) (.seq
  (.reg [(none, (.load (.some 3) (.tmp 9), .some 28)), (none, (.store 3 (.tmp 4) (.tmp 28), none)), (none, (.mov (.const (.bool .true)), .some 5))] []) .ret))))))) (.goto 0))))))))
theorem b70 : Try.f70.body.bind (compC Try.prog) = some c70 := by kernel_rfl
theorem r70 : compR Try.prog Try.f70 = .some [.cell 4 (.some 3), .tmp 5] := by kernel_rfl
theorem n70 : (Try.f70.name == "runtime.NumGoroutine") = false := by kernel_rfl
def c72 : C := .seq
  (.reg [(none, (.mov (.const (.int .i64 0)), .some 2))] []) (.seq
  (.reg [(none, (.mov (.const (.int .i64 1)), .some 3))] []) (.seq (.block 0 (.loop (.seq (.seq
  (.reg [(none, (.mov (.tmp 0), .some 4)), (none, (.bin .geq (.tmp 4) (.const (.int .u64 128)), .some 5))] []) (.cond (.tmp 5) .skip (.exit 0))) (.block 1 (.seq
  (.reg [(none, (.mov (.tmp 0), .some 6)), (none, (.bin .shr (.tmp 6) (.const (.int .u64 7)), .some 7)), (none, (.mov (.tmp 7), .some 0))] [])
  (.reg [(none, (.mov (.tmp 3), .some 8)), (none, (.bin .add (.tmp 8) (.const (.int .i64 1)), .some 9)), (none, (.mov (.tmp 9), .some 3))] [])))))) (.seq
  (.reg [(none, (.mov (.tmp 3), .some 10)), (none, (.mov (.tmp 10), .some 2))] []) .ret)))
theorem b72 : Try.f72.body.bind (compC Try.prog) = some c72 := by kernel_rfl
theorem r72 : compR Try.prog Try.f72 = .some [.tmp 2] := by kernel_rfl
theorem n72 : (Try.f72.name == "runtime.NumGoroutine") = false := by kernel_rfl
def c76 : C := .seq
  (.reg [(none, (.mov (.const (.int .u64 0)), .some 2))] []) (.seq
  (.reg [(none, (.mov (.tmp 0), .some 3)), (none, (.call (.func 127) [.tmp 3, .func 128], .some 4)), (none, (.mov (.tmp 4), .some 2))] []) .ret)
theorem b76 : Try.f76.body.bind (compC Try.prog) = some c76 := by kernel_rfl
theorem r76 : compR Try.prog Try.f76 = .some [.tmp 2] := by kernel_rfl
theorem n76 : (Try.f76.name == "runtime.NumGoroutine") = false := by kernel_rfl
def c94 : C := .seq
  (.reg [(none, (.mov (.const (.int .i64 0)), .some 2))] []) (.seq
  (.reg [(none, (.mov (.tmp 0), .some 3)), (none, (.bin .shr (.tmp 3) (.const (.int .u64 1)), .some 4)), (none, (.cvt .i64 (.tmp 4), .some 5)), (none, (.mov (.tmp 0), .some 6)), (none, (.bin .and (.tmp 6) (.const (.int .u64 1)), .some 7)), (none, (.cvt .i64 (.tmp 7), .some 8)), (none, (.un .neg (.tmp 8), .some 9)), (none, (.bin .xor (.tmp 5) (.tmp 9), .some 10)), (none, (.mov (.tmp 10), .some 2))] []) .ret)
theorem b94 : Try.f94.body.bind (compC Try.prog) = some c94 := by kernel_rfl
theorem r94 : compR Try.prog Try.f94 = .some [.tmp 2] := by kernel_rfl
theorem n94 : (Try.f94.name == "runtime.NumGoroutine") = false := by kernel_rfl
def c96 : C := .reg [(none, (.mov (.tmp 0), .some 4)), (none, (.mov (.tmp 1), .some 5)), (none, (.call (.func 92) [.tmp 5], .some 6)), (none, (.call (.func 91) [.tmp 4, .tmp 6], .some 7))] []
theorem b96 : Try.f96.body.bind (compC Try.prog) = some c96 := by kernel_rfl
theorem r96 : compR Try.prog Try.f96 = .some [] := by kernel_rfl
theorem n96 : (Try.f96.name == "runtime.NumGoroutine") = false := by kernel_rfl
def c104 : C := .seq
  (.reg [(none, (.box (.tmp 0), .some 3)), (none, (.new [.slice none 0 0, .int .i64 0, .int .i64 0, .int .i64 0], .some 6)), (none, (.mov (.const (.slice none 0 0)), .some 7))] []) (.seq
  (.reg [(none, (.load (.some 4) (.tmp 3), .some 15)), (none, (.mov (.tmp 2), .some 16)), (none, (.call (.func 84) [.tmp 15, .tmp 16], .some 17)), (none, (.mov (.tmp 17), .some 14)), (none, (.ext (.tmp 14) 0, .some 18)), (none, (.ext (.tmp 14) 1, .some 19)), (none, (.new [.slice none 0 0, .int .i64 0, .int .i64 0, .int .i64 0], .some 8)), (none, (.store 4 (.tmp 8) (.tmp 18), none)), (none, (.mov (.tmp 19), .some 9))] []) (.seq
  (.reg [(none, (.mov (.const (.slice none 0 0)), .some 10))] []) (.seq (.seq
  (.reg [(none, (.mov (.const (.int .i64 0)), .some 11))] []) (.block 0 (.loop (.seq (.seq
  (.reg [(none, (.mov (.tmp 11), .some 20)), (none, (.mov (.tmp 9), .some 21)), (none, (.bin .lss (.tmp 20) (.tmp 21), .some 22)), (none, (.mov (.tmp 22), .some 23)), (.some (23, .true), (.fadr 2 (.tmp 8), .some 24)), (.some (23, .true), (.fadr 0 (.tmp 24), .some 25)), (.some (23, .true), (.load none (.tmp 25), .some 26)), (.some (23, .true), (.bin .eql (.tmp 26) (.const (.int .i64 0)), .some 27)), (none, (.pick (.tmp 23) (.tmp 27) (.const (.bool .false)), .some 28))] []) (.cond (.tmp 28) .skip (.exit 0))) (.seq (.block 1 (.seq
  (.reg [(none, (.load (.some 4) (.tmp 8), .some 32)), (none, (.call (.func 82) [.tmp 32], .some 33)), (none, (.mov (.tmp 33), .some 31)), (none, (.ext (.tmp 31) 0, .some 34)), (none, (.ext (.tmp 31) 1, .some 35)), (none, (.new [.slice none 0 0, .int .i64 0, .int .i64 0, .int .i64 0], .some 12)), (none, (.store 4 (.tmp 12) (.tmp 34), none)), (none, (.mov (.tmp 35), .some 13))] []) (.seq (.seq
  (.reg [(none, (.fadr 2 (.tmp 12), .some 36)), (none, (.fadr 0 (.tmp 36), .some 37)), (none, (.load none (.tmp 37), .some 38)), (none, (.bin .eql (.tmp 38) (.const (.int .i64 0)), .some 39)), (none, (.mov (.tmp 39), .some 40)), (.some (40, .true), (.mov (.tmp 13), .some 41)), (.some (40, .true), (.mov (.tmp 1), .some 42)), (.some (40, .true), (.bin .geq (.tmp 41) (.tmp 42), .some 43)), (none, (.pick (.tmp 40) (.tmp 43) (.const (.bool .false)), .some 44))] []) (.cond (.tmp 44)
  (.reg [(none, (.load (.some 4) (.tmp 12), .some 45)), (none, (.fadr 1 (.tmp 8), .some 46)), (none, (.load none (.tmp 46), .some 47)), (none, (.call (.func 129) [.tmp 45, .const (.int .i64 13), .tmp 47], .some 48)), (none, (.store 4 (.tmp 12) (.tmp 48), none))] []) .skip)) (.seq
  (.reg [(none, (.mov (.tmp 1), .some 49)), (none, (.mov (.tmp 13), .some 50)), (none, (.bin .sub (.tmp 49) (.tmp 50), .some 51)), (none, (.bin .sub (.tmp 51) (.const (.int .u64 1)), .some 52)), (none, (.mov (.tmp 52), .some 1))] []) (.seq
  (.reg [(none, (.mov (.tmp 10), .some 53)), (none, (.mov (.tmp 1), .some 54)), (none, (.bsl 1 [.tmp 54], .some 55)), (none, (.app 1 8 (.tmp 53) (.tmp 55), .some 56)), (none, (.mov (.tmp 56), .some 10))] [])
  (.reg [(none, (.load (.some 4) (.tmp 12), .some 57)), (none, (.store 4 (.tmp 8) (.tmp 57), none))] []))))))
  (.reg [(none, (.mov (.tmp 11), .some 29)), (none, (.bin .add (.tmp 29) (.const (.int .i64 1)), .some 30)), (none, (.mov (.tmp 30), .some 11))] [])))))) (.seq (.seq
  (.reg [(none, (.fadr 2 (.tmp 8), .some 58)), (none, (.fadr 0 (.tmp 58), .some 59)), (none, (.load none (.tmp 59), .some 60)), (none, (.bin .neq (.tmp 60) (.const (.int .i64 0)), .some 61))] []) (.cond (.tmp 61) (.seq
  (.reg [(none, (.load (.some 4) (.tmp 8), .some 62)), (none, (.store 4 (.tmp 6) (.tmp 62), none)), (none, (.mov (.const (.slice none 0 0)), .some 7))] []) .ret) .skip)) (.seq
  (.reg [(none, (.load (.some 4) (.tmp 8), .some 63)), (none, (.mov (.tmp 10), .some 64)), (none, (.store 4 (.tmp 6) (.tmp 63), none)), (none, (.mov (.tmp 64), .some 7))] []) .ret)))))
theorem b104 : Try.f104.body.bind (compC Try.prog) = some c104 := by kernel_rfl
theorem r104 : compR Try.prog Try.f104 = .some [.cell 6 (.some 4), .tmp 7] := by kernel_rfl
theorem n104 : (Try.f104.name == "runtime.NumGoroutine") = false := by kernel_rfl
def c105 : C := .seq
  (.reg [(none, (.mov (.const (.slice none 0 0)), .some 4))] []) (.seq
  (.reg [(none, (.mov (.tmp 1), .some 8)), (none, (.len .false (.tmp 8), .some 9)), (none, (.cvt .u64 (.tmp 9), .some 10)), (none, (.call (.func 42) [.tmp 10], .some 11)), (none, (.mov (.tmp 11), .some 5))] []) (.seq
  (.reg [(none, (.mov (.tmp 0), .some 12)), (none, (.mov (.tmp 1), .some 13)), (none, (.call (.func 56) [.tmp 12, .tmp 13], .some 14)), (none, (.mov (.tmp 14), .some 6))] []) (.seq (.seq
  (.reg [(none, (.mov (.const (.int .i64 0)), .some 7))] []) (.block 0 (.loop (.seq (.seq
  (.reg [(none, (.mov (.tmp 7), .some 15)), (none, (.mov (.tmp 6), .some 16)), (none, (.len .false (.tmp 16), .some 17)), (none, (.bin .lss (.tmp 15) (.tmp 17), .some 18))] []) (.cond (.tmp 18) .skip (.exit 0))) (.seq (.block 1
  (.reg [(none, (.mov (.tmp 5), .some 21)), (none, (.mov (.tmp 6), .some 22)), (none, (.mov (.tmp 7), .some 23)), (none, (.iadr 1 (.tmp 22) (.tmp 23), .some 24)), (none, (.load none (.tmp 24), .some 25)), (none, (.call (.func 42) [.tmp 25], .some 26)), (none, (.app 1 1 (.tmp 21) (.tmp 26), .some 27)), (none, (.mov (.tmp 27), .some 5))] []))
  (.reg [(none, (.mov (.tmp 7), .some 19)), (none, (.bin .add (.tmp 19) (.const (.int .i64 1)), .some 20)), (none, (.mov (.tmp 20), .some 7))] [])))))) (.seq
  (.reg [(none, (.mov (.tmp 5), .some 28)), (none, (.mov (.tmp 28), .some 4))] []) .ret))))
theorem b105 : Try.f105.body.bind (compC Try.prog) = some c105 := by kernel_rfl
theorem r105 : compR Try.prog Try.f105 = .some [.tmp 4] := by kernel_rfl
theorem n105 : (Try.f105.name == "runtime.NumGoroutine") = false := by kernel_rfl
def c109 : C := .seq
  (.reg [(none, (.mov (.const (.int .u64 0)), .some 4))] []) (.seq
  (.reg [(none, (.mov (.const (.int .u64 0)), .some 5))] []) (.seq (.seq
  (.reg [(none, (.mov (.tmp 0), .some 8)), (none, (.mov (.tmp 1), .some 9)), (none, (.mx .true (.tmp 9) (.const (.int .i64 0)), .some 10)), (none, (.mx .false (.tmp 10) (.const (.int .i64 8)), .some 11)), (none, (.call (.func 137) [.tmp 8, .tmp 11], .some 12)), (none, (.len .false (.tmp 12), .some 13)), (none, (.mov (.const (.int .i64 0)), .some 14))] []) (.block 0 (.loop (.seq
  (.reg [(none, (.bin .lss (.tmp 14) (.tmp 13), .some 15))] []) (.seq (.cond (.tmp 15) .skip (.exit 0)) (.seq (.block 1 (.seq
  (.reg [(none, (.mov (.tmp 14), .some 16)), (none, (.iadr 1 (.tmp 12) (.tmp 14), .some 17)), (none, (.load none (.tmp 17), .some 18)), (none, (.mov (.tmp 16), .some 6)), (none, (.mov (.tmp 18), .some 7))] [])
  (.reg [(none, (.mov (.tmp 5), .some 19)), (none, (.mov (.tmp 7), .some 20)), (none, (.cvt .u64 (.tmp 20), .some 21)), (none, (.mov (.tmp 6), .some 22)), (none, (.bin .mul (.const (.int .i64 8)) (.tmp 22), .some 23)), (none, (.bin .shl (.tmp 21) (.tmp 23), .some 24)), (none, (.bin .or (.tmp 19) (.tmp 24), .some 25)), (none, (.mov (.tmp 25), .some 5))] [])))
  (.reg [(none, (.bin .add (.tmp 14) (.const (.int .i64 1)), .some 26)), (none, (.mov (.tmp 26), .some 14))] []))))))) (.seq
  (.reg [(none, (.mov (.tmp 5), .some 27)), (none, (.mov (.tmp 27), .some 4))] []) .ret)))
theorem b109 : Try.f109.body.bind (compC Try.prog) = some c109 := by kernel_rfl
theorem r109 : compR Try.prog Try.f109 = .some [.tmp 4] := by kernel_rfl
theorem n109 : (Try.f109.name == "runtime.NumGoroutine") = false := by kernel_rfl
def c115 : C := .seq
  (.reg [(none, (.box (.tmp 0), .some 1)), (none, (.new [.slice none 0 0, .int .i64 0, .int .i64 0, .int .i64 0], .some 2)), (none, (.mov (.const (.slice none 0 0)), .some 3))] []) (.seq
  (.reg [(none, (.load (.some 4) (.tmp 1), .some 17)), (none, (.call (.func 84) [.tmp 17, .const (.int .i64 16)], .some 18)), (none, (.mov (.tmp 18), .some 16)), (none, (.ext (.tmp 16) 0, .some 19)), (none, (.ext (.tmp 16) 1, .some 20)), (none, (.new [.slice none 0 0, .int .i64 0, .int .i64 0, .int .i64 0], .some 4)), (none, (.store 4 (.tmp 4) (.tmp 19), none)), (none, (.mov (.tmp 20), .some 5))] []) (.seq
  (.reg [(none, (.mov (.const (.slice none 0 0)), .some 6))] []) (.seq
  (.reg [(none, (.mov (.const (.int .u64 0)), .some 7)), (none, (.mov (.const (.int .i64 0)), .some 8))] []) (.seq (.seq
  (.reg [(none, (.mov (.const (.int .i64 0)), .some 9))] []) (.block 0 (.loop (.seq (.seq
  (.reg [(none, (.mov (.tmp 9), .some 21)), (none, (.mov (.tmp 5), .some 22)), (none, (.bin .lss (.tmp 21) (.tmp 22), .some 23)), (none, (.mov (.tmp 23), .some 24)), (.some (24, .true), (.fadr 2 (.tmp 4), .some 25)), (.some (24, .true), (.fadr 0 (.tmp 25), .some 26)), (.some (24, .true), (.load none (.tmp 26), .some 27)), (.some (24, .true), (.bin .eql (.tmp 27) (.const (.int .i64 0)), .some 28)), (none, (.pick (.tmp 24) (.tmp 28) (.const (.bool .false)), .some 29))] []) (.cond (.tmp 29) .skip (.exit 0))) (.seq (.block 1 (.seq
  (.reg [(none, (.load (.some 4) (.tmp 4), .some 33)), (none, (.call (.func 82) [.tmp 33], .some 34)), (none, (.mov (.tmp 34), .some 32)), (none, (.ext (.tmp 32) 0, .some 35)), (none, (.ext (.tmp 32) 1, .some 36)), (none, (.new [.slice none 0 0, .int .i64 0, .int .i64 0, .int .i64 0], .some 10)), (none, (.store 4 (.tmp 10) (.tmp 35), none)), (none, (.mov (.tmp 36), .some 11))] []) (.seq
  (.reg [(none, (.load (.some 4) (.tmp 10), .some 38)), (none, (.call (.func 84) [.tmp 38, .const (.int .i64 16)], .some 39)), (none, (.mov (.tmp 39), .some 37)), (none, (.ext (.tmp 37) 0, .some 40)), (none, (.ext (.tmp 37) 1, .some 41)), (none, (.new [.slice none 0 0, .int .i64 0, .int .i64 0, .int .i64 0], .some 12)), (none, (.store 4 (.tmp 12) (.tmp 40), none)), (none, (.mov (.tmp 41), .some 13))] []) (.seq
  (.reg [(none, (.load (.some 4) (.tmp 12), .some 43)), (none, (.call (.func 84) [.tmp 43, .const (.int .i64 1099511627775)], .some 44)), (none, (.mov (.tmp 44), .some 42)), (none, (.ext (.tmp 42) 0, .some 45)), (none, (.ext (.tmp 42) 1, .some 46)), (none, (.new [.slice none 0 0, .int .i64 0, .int .i64 0, .int .i64 0], .some 14)), (none, (.store 4 (.tmp 14) (.tmp 45), none)), (none, (.mov (.tmp 46), .some 15))] []) (.seq (.seq
  (.reg [(none, (.fadr 2 (.tmp 14), .some 47)), (none, (.fadr 0 (.tmp 47), .some 48)), (none, (.load none (.tmp 48), .some 49)), (none, (.bin .eql (.tmp 49) (.const (.int .i64 0)), .some 50))] []) (.cond (.tmp 50) (.seq
  (.reg [(none, (.mov (.tmp 13), .some 51)), (none, (.bin .eql (.tmp 51) (.const (.int .i64 0)), .some 52)), (none, (.mov (.tmp 52), .some 53)), (.some (53, .false), (.mov (.tmp 11), .some 54)), (.some (53, .false), (.mov (.tmp 7), .some 55)), (.some (53, .false), (.bin .sub (.const (.int .u64 4611686018427387904)) (.tmp 55), .some 56)), (.some (53, .false), (.bin .gtr (.tmp 54) (.tmp 56), .some 57)), (none, (.pick (.tmp 53) (.const (.bool .true)) (.tmp 57), .some 58)), (none, (.mov (.tmp 58), .some 59)), (.some (59, .false), (.mov (.tmp 13), .some 60)), (.some (59, .false), (.cvt .u64 (.tmp 60), .some 61)), (.some (59, .false), (.mov (.tmp 7), .some 62)), (.some (59, .false), (.bin .sub (.const (.int .u64 4611686018427387904)) (.tmp 62), .some 63)), (.some (59, .false), (.mov (.tmp 11), .some 64)), (.some (59, .false), (.bin .sub (.tmp 63) (.tmp 64), .some 65)), (.some (59, .false), (.bin .gtr (.tmp 61) (.tmp 65), .some 66)), (none, (.pick (.tmp 59) (.const (.bool .true)) (.tmp 66), .some 67)), (none, (.mov (.tmp 67), .some 68)), (.some (68, .false), (.mov (.tmp 8), .some 69)), (.some (68, .false), (.mov (.tmp 15), .some 70)), (.some (68, .false), (.bin .add (.tmp 69) (.tmp 70), .some 71)), (.some (68, .false), (.bin .add (.tmp 71) (.const (.int .i64 1)), .some 72)), (.some (68, .false), (.bin .gtr (.tmp 72) (.const (.int .i64 1099511627775)), .some 73)), (none, (.pick (.tmp 68) (.const (.bool .true)) (.tmp 73), .some 74))] []) (.cond (.tmp 74)
  (.reg [(none, (.load (.some 4) (.tmp 14), .some 75)), (none, (.fadr 1 (.tmp 4), .some 76)), (none, (.load none (.tmp 76), .some 77)), (none, (.call (.func 129) [.tmp 75, .const (.int .i64 3), .tmp 77], .some 78)), (none, (.store 4 (.tmp 14) (.tmp 78), none))] []) .skip)) .skip)) (.seq
  (.reg [(none, (.mov (.tmp 6), .some 79)), (none, (.mov (.tmp 7), .some 80)), (none, (.mov (.tmp 11), .some 81)), (none, (.bin .add (.tmp 80) (.tmp 81), .some 82)), (none, (.mov (.tmp 13), .some 83)), (none, (.mov (.tmp 8), .some 84)), (none, (.mov (.tmp 15), .some 85)), (none, (.bin .add (.tmp 84) (.tmp 85), .some 86)), (none, (.bin .add (.tmp 86) (.const (.int .i64 1)), .some 87)), (none, (.build [.int .u64 0, .int .i64 0, .int .i64 0] [(0, (1, .tmp 82)), (1, (1, .tmp 83)), (2, (1, .tmp 87))], .some 88)), (none, (.bsl 3 [.tmp 88], .some 89)), (none, (.app 3 24 (.tmp 79) (.tmp 89), .some 90)), (none, (.mov (.tmp 90), .some 6))] []) (.seq
  (.reg [(none, (.mov (.tmp 7), .some 91)), (none, (.mov (.tmp 11), .some 92)), (none, (.bin .add (.tmp 91) (.tmp 92), .some 93)), (none, (.mov (.tmp 13), .some 94)), (none, (.cvt .u64 (.tmp 94), .some 95)), (none, (.bin .add (.tmp 93) (.tmp 95), .some 96)), (none, (.mov (.tmp 8), .some 97)), (none, (.mov (.tmp 15), .some 98)), (none, (.bin .add (.tmp 97) (.tmp 98), .some 99)), (none, (.bin .add (.tmp 99) (.const (.int .i64 1)), .some 100)), (none, (.mov (.tmp 96), .some 7)), (none, (.mov (.tmp 100), .some 8))] [])
  (.reg [(none, (.load (.some 4) (.tmp 14), .some 101)), (none, (.store 4 (.tmp 4) (.tmp 101), none))] []))))))))
  (.reg [(none, (.mov (.tmp 9), .some 30)), (none, (.bin .add (.tmp 30) (.const (.int .i64 1)), .some 31)), (none, (.mov (.tmp 31), .some 9))] [])))))) (.seq (.seq
  (.reg [(none, (.fadr 2 (.tmp 4), .some 102)), (none, (.fadr 0 (.tmp 102), .some 103)), (none, (.load none (.tmp 103), .some 104)), (none, (.bin .neq (.tmp 104) (.const (.int .i64 0)), .some 105))] []) (.cond (.tmp 105) (.seq
  (.reg [(none, (.load (.some 4) (.tmp 4), .some 106)), (none, (.store 4 (.tmp 2) (.tmp 106), none)), (none, (.mov (.const (.slice none 0 0)), .some 3))] []) .ret) .skip)) (.seq
  (.reg [(none, (.load (.some 4) (.tmp 4), .some 107)), (none, (.mov (.tmp 6), .some 108)), (none, (.store 4 (.tmp 2) (.tmp 107), none)), (none, (.mov (.tmp 108), .some 3))] []) .ret))))))
theorem b115 : Try.f115.body.bind (compC Try.prog) = some c115 := by kernel_rfl
theorem r115 : compR Try.prog Try.f115 = .some [.cell 2 (.some 4), .tmp 3] := by kernel_rfl
theorem n115 : (Try.f115.name == "runtime.NumGoroutine") = false := by kernel_rfl
def c127 : C := .seq
  (.reg [(none, (.mov (.const (.int .u64 0)), .some 4))] []) (.seq
  (.reg [(none, (.mov (.tmp 0), .some 7)), (none, (.call (.func 79) [.tmp 7], .some 8)), (none, (.mov (.tmp 8), .some 5))] []) (.seq
  (.reg [(none, (.mov (.tmp 0), .some 9)), (none, (.call (.func 85) [.tmp 9], .some 10)), (none, (.mov (.tmp 10), .some 6))] []) (.seq (.seq
  (.reg [(none, (.mov (.tmp 1), .some 11)), (none, (.mov (.tmp 6), .some 12)), (none, (.call (.tmp 11) [.tmp 12], .some 13)), (none, (.un .not (.tmp 13), .some 14))] []) (.cond (.tmp 14)
  (.reg [(none, (.mov (.tmp 0), .some 15)), (none, (.mov (.tmp 5), .some 16)), (none, (.call (.func 132) [.tmp 15, .const (.int .i64 3), .tmp 16], .some 17))] []) .skip)) (.seq (.seq
  (.reg [(none, (.mov (.tmp 0), .some 18)), (none, (.call (.func 102) [.tmp 18], .some 19)), (none, (.un .not (.tmp 19), .some 20))] []) (.cond (.tmp 20) (.seq
  (.reg [(none, (.mov (.const (.int .u64 0)), .some 4))] []) .ret) .skip)) (.seq
  (.reg [(none, (.mov (.tmp 6), .some 21)), (none, (.mov (.tmp 21), .some 4))] []) .ret)))))
theorem b127 : Try.f127.body.bind (compC Try.prog) = some c127 := by kernel_rfl
theorem r127 : compR Try.prog Try.f127 = .some [.tmp 4] := by kernel_rfl
theorem n127 : (Try.f127.name == "runtime.NumGoroutine") = false := by kernel_rfl
def c128 : C := .seq
  (.reg [(none, (.mov (.const (.bool .false)), .some 2))] []) (.seq
  (.reg [(none, (.mov (.tmp 0), .some 3)), (none, (.bin .leq (.tmp 3) (.const (.int .u64 4611686018427387904)), .some 4)), (none, (.mov (.tmp 4), .some 2))] []) .ret)
theorem b128 : Try.f128.body.bind (compC Try.prog) = some c128 := by kernel_rfl
theorem r128 : compR Try.prog Try.f128 = .some [.tmp 2] := by kernel_rfl
theorem n128 : (Try.f128.name == "runtime.NumGoroutine") = false := by kernel_rfl
def c130 : C := .seq
  (.reg [(none, (.new [.int .i64 0, .int .i64 0], .some 4))] []) (.seq (.seq
  (.reg [(none, (.mov (.tmp 0), .some 5)), (none, (.bin .eql (.tmp 5) (.const (.int .i64 0)), .some 6))] []) (.cond (.tmp 6) (.seq
  (.reg [(none, (.build [.int .i64 0, .int .i64 0] [], .some 7)), (none, (.store 2 (.tmp 4) (.tmp 7), none))] []) .ret) .skip)) (.seq
  (.reg [(none, (.mov (.tmp 0), .some 8)), (none, (.mov (.tmp 1), .some 9)), (none, (.build [.int .i64 0, .int .i64 0] [(0, (1, .tmp 8)), (1, (1, .tmp 9))], .some 10)), (none, (.store 2 (.tmp 4) (.tmp 10), none))] []) .ret))
theorem b130 : Try.f130.body.bind (compC Try.prog) = some c130 := by kernel_rfl
theorem r130 : compR Try.prog Try.f130 = .some [.cell 4 (.some 2)] := by kernel_rfl
theorem n130 : (Try.f130.name == "runtime.NumGoroutine") = false := by kernel_rfl
def c132 : C := .seq
  (.reg [(none, (.mov (.tmp 0), .some 6)), (none, (.call (.func 102) [.tmp 6], .some 7))] []) (.cond (.tmp 7)
  (.reg [(none, (.mov (.tmp 0), .some 8)), (none, (.mov (.tmp 1), .some 9)), (none, (.mov (.tmp 2), .some 10)), (none, (.call (.func 130) [.tmp 9, .tmp 10], .some 11)), (none, (.nilc (.tmp 8), .some 12)), (none, (.fadr 2 (.tmp 12), .some 13)), (none, (.store 2 (.tmp 13) (.tmp 11), none))] []) .skip)
theorem b132 : Try.f132.body.bind (compC Try.prog) = some c132 := by kernel_rfl
theorem r132 : compR Try.prog Try.f132 = .some [] := by kernel_rfl
theorem n132 : (Try.f132.name == "runtime.NumGoroutine") = false := by kernel_rfl
def c133 : C := .seq
  (.reg [(none, (.mov (.const (.int .u8 0)), .some 2))] []) (.seq (.seq
  (.reg [(none, (.mov (.tmp 0), .some 3)), (none, (.call (.func 81) [.tmp 3, .const (.int .i64 1)], .some 4)), (none, (.un .not (.tmp 4), .some 5))] []) (.cond (.tmp 5) (.seq
  (.reg [(none, (.mov (.const (.int .u8 0)), .some 2))] []) .ret) .skip)) (.seq
  (.reg [(none, (.mov (.tmp 0), .some 6)), (none, (.nilc (.tmp 6), .some 7)), (none, (.fadr 0 (.tmp 7), .some 8)), (none, (.load none (.tmp 8), .some 9)), (none, (.mov (.tmp 0), .some 10)), (none, (.nilc (.tmp 10), .some 11)), (none, (.fadr 1 (.tmp 11), .some 12)), (none, (.load none (.tmp 12), .some 13)), (none, (.bin .sub (.tmp 13) (.const (.int .i64 1)), .some 14)), (none, (.iadr 1 (.tmp 9) (.tmp 14), .some 15)), (none, (.load none (.tmp 15), .some 16)), (none, (.mov (.tmp 16), .some 2))] [(3, 7)]) .ret))
theorem b133 : Try.f133.body.bind (compC Try.prog) = some c133 := by kernel_rfl
theorem r133 : compR Try.prog Try.f133 = .some [.tmp 2] := by kernel_rfl
theorem n133 : (Try.f133.name == "runtime.NumGoroutine") = false := by kernel_rfl
def c134 : C := .seq
  (.reg [(none, (.mov (.const (.int .i64 0)), .some 4))] []) (.seq
  (.reg [(none, (.mov (.tmp 0), .some 8)), (none, (.mov (.const (.int .i64 0)), .some 5)), (none, (.mov (.tmp 8), .some 6))] []) (.seq (.block 0 (.loop (.seq (.seq
  (.reg [(none, (.mov (.tmp 5), .some 9)), (none, (.mov (.tmp 6), .some 10)), (none, (.bin .lss (.tmp 9) (.tmp 10), .some 11))] []) (.cond (.tmp 11) .skip (.exit 0))) (.block 1 (.seq
  (.reg [(none, (.mov (.tmp 5), .some 12)), (none, (.mov (.tmp 6), .some 13)), (none, (.bin .add (.tmp 12) (.tmp 13), .some 14)), (none, (.cvt .u64 (.tmp 14), .some 15)), (none, (.bin .shr (.tmp 15) (.const (.int .u64 1)), .some 16)), (none, (.cvt .i64 (.tmp 16), .some 17)), (none, (.mov (.tmp 17), .some 7))] []) (.seq
  (.reg [(none, (.mov (.tmp 1), .some 18)), (none, (.mov (.tmp 7), .some 19)), (none, (.call (.tmp 18) [.tmp 19], .some 20)), (none, (.un .not (.tmp 20), .some 21))] []) (.cond (.tmp 21)
  (.reg [(none, (.mov (.tmp 7), .some 22)), (none, (.bin .add (.tmp 22) (.const (.int .i64 1)), .some 23)), (none, (.mov (.tmp 23), .some 5))] [])
  (.reg [(none, (.mov (.tmp 7), .some 24)), (none, (.mov (.tmp 24), .some 6))] [])))))))) (.seq
  (.reg [(none, (.mov (.tmp 5), .some 25)), (none, (.mov (.tmp 25), .some 4))] []) .ret)))
theorem b134 : Try.f134.body.bind (compC Try.prog) = some c134 := by kernel_rfl
theorem r134 : compR Try.prog Try.f134 = .some [.tmp 4] := by kernel_rfl
theorem n134 : (Try.f134.name == "runtime.NumGoroutine") = false := by kernel_rfl
def c139 : C := .seq
  (.reg [(none, (.box (.tmp 0), .some 2)), (none, (.new [.slice none 0 0, .int .i64 0, .int .i64 0, .int .i64 0], .some 4)), (none, (.mov (.const (.slice none 0 0)), .some 5))] []) (.seq (.seq
  (.reg [(none, (.fadr 2 (.tmp 2), .some 7)), (none, (.fadr 0 (.tmp 7), .some 8)), (none, (.load none (.tmp 8), .some 9)), (none, (.bin .neq (.tmp 9) (.const (.int .i64 0)), .some 10))] []) (.cond (.tmp 10) (.seq
  (.reg [(none, (.load (.some 4) (.tmp 2), .some 11)), (none, (.store 4 (.tmp 4) (.tmp 11), none)), (none, (.mov (.const (.slice none 0 0)), .some 5))] []) .ret) .skip)) (.seq (.seq
  (.reg [(none, (.mov (.tmp 1), .some 12)), (none, (.bin .lss (.tmp 12) (.const (.int .i64 0)), .some 13))] []) (.cond (.tmp 13) (.seq
  (.reg [(none, (.load (.some 4) (.tmp 2), .some 14)), (none, (.fadr 1 (.tmp 2), .some 15)), (none, (.load none (.tmp 15), .some 16)), (none, (.call (.func 129) [.tmp 14, .const (.int .i64 17), .tmp 16], .some 17)), (none, (.store 4 (.tmp 4) (.tmp 17), none)), (none, (.mov (.const (.slice none 0 0)), .some 5))] []) .ret) .skip)) (.seq (.seq
  (.reg [(none, (.mov (.tmp 1), .some 18)), (none, (.fadr 0 (.tmp 2), .some 19)), (none, (.load none (.tmp 19), .some 20)), (none, (.len .false (.tmp 20), .some 21)), (none, (.fadr 1 (.tmp 2), .some 22)), (none, (.load none (.tmp 22), .some 23)), (none, (.bin .sub (.tmp 21) (.tmp 23), .some 24)), (none, (.bin .gtr (.tmp 18) (.tmp 24), .some 25))] []) (.cond (.tmp 25) (.seq
  (.reg [(none, (.load (.some 4) (.tmp 2), .some 26)), (none, (.fadr 0 (.tmp 2), .some 27)), (none, (.load none (.tmp 27), .some 28)), (none, (.len .false (.tmp 28), .some 29)), (none, (.call (.func 129) [.tmp 26, .const (.int .i64 1), .tmp 29], .some 30)), (none, (.store 4 (.tmp 4) (.tmp 30), none)), (none, (.mov (.const (.slice none 0 0)), .some 5))] []) .ret) .skip)) (.seq
  (.reg [(none, (.mov (.const (.slice none 0 0)), .some 6))] []) (.seq
  (.reg [(none, (.mov (.tmp 6), .some 31)), (none, (.fadr 0 (.tmp 2), .some 32)), (none, (.load none (.tmp 32), .some 33)), (none, (.fadr 1 (.tmp 2), .some 34)), (none, (.load none (.tmp 34), .some 35)), (none, (.fadr 1 (.tmp 2), .some 36)), (none, (.load none (.tmp 36), .some 37)), (none, (.mov (.tmp 1), .some 38)), (none, (.bin .add (.tmp 37) (.tmp 38), .some 39)), (none, (.slice 1 (.tmp 33) (.some (.tmp 35)) (.some (.tmp 39)) none, .some 40)), (none, (.app 1 1 (.tmp 31) (.tmp 40), .some 41)), (none, (.mov (.tmp 41), .some 6))] []) (.seq
  (.reg [(none, (.fadr 1 (.tmp 2), .some 42)), (none, (.load none (.tmp 42), .some 43)), (none, (.mov (.tmp 1), .some 44)), (none, (.bin .add (.tmp 43) (.tmp 44), .some 45)), (none, (.fadr 1 (.tmp 2), .some 46)), (none, (.store 1 (.tmp 46) (.tmp 45), none))] []) (.seq
  (.reg [(none, (.load (.some 4) (.tmp 2), .some 47)), (none, (.mov (.tmp 6), .some 48)), (none, (.store 4 (.tmp 4) (.tmp 47), none)), (none, (.mov (.tmp 48), .some 5))] []) .ret)))))))
theorem b139 : Try.f139.body.bind (compC Try.prog) = some c139 := by kernel_rfl
theorem r139 : compR Try.prog Try.f139 = .some [.cell 4 (.some 4), .tmp 5] := by kernel_rfl
theorem n139 : (Try.f139.name == "runtime.NumGoroutine") = false := by kernel_rfl
def c142 : C := .seq
  (.reg [(none, (.mov (.const (.bool .false)), .some 4))] []) (.seq (.seq
  (.reg [(none, (.mov (.tmp 0), .some 6)), (none, (.len .false (.tmp 6), .some 7)), (none, (.mov (.tmp 1), .some 8)), (none, (.len .false (.tmp 8), .some 9)), (none, (.bin .neq (.tmp 7) (.tmp 9), .some 10))] []) (.cond (.tmp 10) (.seq
  (.reg [(none, (.mov (.const (.bool .false)), .some 4))] []) .ret) .skip)) (.seq (.seq
  (.reg [(none, (.mov (.tmp 0), .some 11)), (none, (.len .false (.tmp 11), .some 12)), (none, (.mov (.const (.int .i64 0)), .some 13))] []) (.block 0 (.loop (.seq
  (.reg [(none, (.bin .lss (.tmp 13) (.tmp 12), .some 14))] []) (.seq (.cond (.tmp 14) .skip (.exit 0)) (.seq (.block 1 (.seq
  (.reg [(none, (.mov (.tmp 13), .some 15)), (none, (.mov (.tmp 15), .some 5))] []) (.seq
  (.reg [(none, (.mov (.tmp 0), .some 16)), (none, (.mov (.tmp 5), .some 17)), (none, (.iadr 3 (.tmp 16) (.tmp 17), .some 18)), (none, (.load (.some 3) (.tmp 18), .some 19)), (none, (.mov (.tmp 1), .some 20)), (none, (.mov (.tmp 5), .some 21)), (none, (.iadr 3 (.tmp 20) (.tmp 21), .some 22)), (none, (.load (.some 3) (.tmp 22), .some 23)), (none, (.eqa .true 3 (.tmp 19) (.tmp 23), .some 24))] [(3, 7)]) (.cond (.tmp 24) (.seq
  (.reg [(none, (.mov (.const (.bool .false)), .some 4))] []) .ret) .skip))))
  (.reg [(none, (.bin .add (.tmp 13) (.const (.int .i64 1)), .some 25)), (none, (.mov (.tmp 25), .some 13))] []))))))) (.seq
  (.reg [(none, (.mov (.const (.bool .true)), .some 4))] []) .ret)))
theorem b142 : Try.f142.body.bind (compC Try.prog) = some c142 := by kernel_rfl
theorem r142 : compR Try.prog Try.f142 = .some [.tmp 4] := by kernel_rfl
theorem n142 : (Try.f142.name == "runtime.NumGoroutine") = false := by kernel_rfl
end Go.Proofs.Ytgphhganepjaiaa
