/-
  The codes of the seat's functions over abstract values, each shown to be its function's own (by program: wip/tools/codes.py).
-/
import Derived.Test.YtgphhganepjaiaaA2
import Derived.Test.YtgphhganepjaiaaProg
import Derived.KernelRfl
namespace Go.Proofs.Ytgphhganepjaiaa
def c3 : C := .seq
  (.reg [(none, (.box (.tmp 0), .some 3)), (none, (.mov (.const (.bool .false)), .some 6))] []) (.seq
  (.reg [(none, (.aadr 2 1 (.tmp 3) (.const (.int .i64 0)), .some 9)), (none, (.load none (.tmp 9), .some 10)), (none, (.aadr 2 1 (.tmp 3) (.const (.int .i64 1)), .some 11)), (none, (.load none (.tmp 11), .some 12)), (none, (.mov (.tmp 10), .some 7)), (none, (.mov (.tmp 12), .some 8))] [(1, 3)]) (.seq (.seq
  (.reg [(none, (.mov (.tmp 7), .some 13)), (none, (.mov (.tmp 2), .some 14)), (none, (.mov (.tmp 1), .some 15)), (none, (.call (.func 28) [.tmp 13, .tmp 14, .tmp 15], .some 16)), (none, (.mov (.tmp 7), .some 17)), (none, (.mov (.tmp 2), .some 18)), (none, (.mov (.tmp 1), .some 19)), (none, (.call (.func 29) [.tmp 17, .tmp 18, .tmp 19], .some 20)), (none, (.bin .neq (.tmp 16) (.tmp 20), .some 21)), (none, (.mov (.tmp 21), .some 22)), (.some (22, .false), (.mov (.tmp 7), .some 23)), (.some (22, .false), (.mov (.tmp 1), .some 24)), (.some (22, .false), (.call (.func 28) [.tmp 23, .const (.bool .true), .tmp 24], .some 25)), (.some (22, .false), (.bin .eql (.tmp 25) (.const (.int .i64 0)), .some 26)), (none, (.pick (.tmp 22) (.const (.bool .true)) (.tmp 26), .some 27))] []) (.cond (.tmp 27) (.seq
  (.reg [(none, (.mov (.const (.bool .false)), .some 6))] []) .ret) .skip)) (.seq
  (.reg [(none, (.mov (.tmp 7), .some 28)), (none, (.mov (.tmp 1), .some 29)), (none, (.call (.func 28) [.tmp 28, .const (.bool .false), .tmp 29], .some 30)), (none, (.bin .neq (.tmp 30) (.const (.int .i64 0)), .some 31)), (none, (.mov (.tmp 31), .some 32)), (.some (32, .false), (.mov (.tmp 8), .some 33)), (.some (32, .false), (.mov (.tmp 2), .some 34)), (.some (32, .false), (.mov (.tmp 1), .some 35)), (.some (32, .false), (.call (.func 28) [.tmp 33, .tmp 34, .tmp 35], .some 36)), (.some (32, .false), (.bin .neq (.tmp 36) (.const (.int .i64 0)), .some 37)), (none, (.pick (.tmp 32) (.const (.bool .true)) (.tmp 37), .some 38)), (none, (.mov (.tmp 38), .some 39)), (.some (39, .false), (.mov (.tmp 7), .some 40)), (.some (39, .false), (.mov (.tmp 8), .some 41)), (.some (39, .false), (.bin .eql (.tmp 40) (.tmp 41), .some 42)), (none, (.pick (.tmp 39) (.const (.bool .true)) (.tmp 42), .some 43)), (none, (.mov (.tmp 43), .some 44)), (.some (44, .true), (.call (.func 30) [], .some 45)), (none, (.pick (.tmp 44) (.tmp 45) (.const (.bool .false)), .some 46)), (none, (.mov (.tmp 46), .some 6))] []) .ret)))
theorem b3 : Try.f3.body.bind (compC Try.prog) = some c3 := by kernel_rfl
theorem r3 : compR Try.prog Try.f3 = .some [.tmp 6] := by kernel_rfl
theorem n3 : (Try.f3.name == "runtime.NumGoroutine") = false := by kernel_rfl
def c4 : C := .seq
  (.reg [(none, (.mov (.const (.bool .false)), .some 4))] []) (.seq (.seq
  (.reg [(none, (.mov (.tmp 1), .some 12)), (none, (.len .false (.tmp 12), .some 13)), (none, (.bin .gtr (.tmp 13) (.const (.int .i64 200)), .some 14))] []) (.cond (.tmp 14) (.seq
  (.reg [(none, (.call (.func 30) [], .some 15)), (none, (.mov (.tmp 15), .some 4))] []) .ret) .skip)) (.seq
  (.reg [(none, (.mov (.tmp 0), .some 17)), (none, (.call (.func 31) [.tmp 17], .some 18)), (none, (.mov (.tmp 18), .some 16)), (none, (.ext (.tmp 16) 0, .some 19)), (none, (.ext (.tmp 16) 1, .some 20)), (none, (.mov (.tmp 19), .some 5)), (none, (.mov (.tmp 20), .some 6))] []) (.seq (.seq
  (.reg [(none, (.mov (.tmp 6), .some 21)), (none, (.mov (.tmp 0), .some 22)), (none, (.call (.func 32) [.tmp 22], .some 23)), (none, (.mov (.tmp 23), .some 24)), (.some (24, .true), (.mov (.tmp 0), .some 25)), (.some (24, .true), (.bin .add (.tmp 25) (.const (.int .u64 1)), .some 26)), (.some (24, .true), (.call (.func 32) [.tmp 26], .some 27)), (none, (.pick (.tmp 24) (.tmp 27) (.const (.bool .false)), .some 28)), (none, (.eqb .true (.tmp 21) (.tmp 28), .some 29)), (none, (.mov (.tmp 29), .some 30)), (.some (30, .false), (.mov (.tmp 6), .some 31)), (.some (30, .false), (.mov (.tmp 31), .some 32)), (.some (32, .true), (.mov (.tmp 5), .some 33)), (.some (32, .true), (.mov (.tmp 0), .some 34)), (.some (32, .true), (.bin .add (.tmp 34) (.const (.int .u64 1)), .some 35)), (.some (32, .true), (.bin .neq (.tmp 33) (.tmp 35), .some 36)), (.some (30, .false), (.pick (.tmp 32) (.tmp 36) (.const (.bool .false)), .some 37)), (none, (.pick (.tmp 30) (.const (.bool .true)) (.tmp 37), .some 38)), (none, (.mov (.tmp 38), .some 39)), (.some (39, .false), (.mov (.tmp 6), .some 40)), (.some (39, .false), (.un .not (.tmp 40), .some 41)), (.some (39, .false), (.mov (.tmp 41), .some 42)), (.some (42, .true), (.mov (.tmp 5), .some 43)), (.some (42, .true), (.bin .neq (.tmp 43) (.const (.int .u64 0)), .some 44)), (.some (39, .false), (.pick (.tmp 42) (.tmp 44) (.const (.bool .false)), .some 45)), (none, (.pick (.tmp 39) (.const (.bool .true)) (.tmp 45), .some 46))] []) (.cond (.tmp 46) (.seq
  (.reg [(none, (.mov (.const (.bool .false)), .some 4))] []) .ret) .skip)) (.seq
  (.reg [(none, (.mov (.tmp 1), .some 47)), (none, (.len .false (.tmp 47), .some 48)), (none, (.bin .gtr (.tmp 48) (.const (.int .i64 0)), .some 49)), (none, (.mov (.tmp 49), .some 7)), (none, (.mov (.const (.int .u64 0)), .some 8))] []) (.seq (.seq
  (.reg [(none, (.mov (.const (.int .i64 0)), .some 9))] []) (.block 0 (.loop (.seq (.seq
  (.reg [(none, (.mov (.tmp 9), .some 50)), (none, (.mov (.tmp 1), .some 51)), (none, (.len .false (.tmp 51), .some 52)), (none, (.bin .lss (.tmp 50) (.tmp 52), .some 53))] []) (.cond (.tmp 53) .skip (.exit 0))) (.seq (.block 1 (.seq
  (.reg [(none, (.mov (.tmp 7), .some 56)), (none, (.mov (.tmp 56), .some 57)), (.some (57, .true), (.mov (.tmp 1), .some 58)), (.some (57, .true), (.mov (.tmp 9), .some 59)), (.some (57, .true), (.iadr 1 (.tmp 58) (.tmp 59), .some 60)), (.some (57, .true), (.load none (.tmp 60), .some 61)), (.some (57, .true), (.call (.func 32) [.tmp 61], .some 62)), (none, (.pick (.tmp 57) (.tmp 62) (.const (.bool .false)), .some 63)), (none, (.mov (.tmp 63), .some 7))] [])
  (.reg [(none, (.mov (.tmp 8), .some 64)), (none, (.mov (.tmp 1), .some 65)), (none, (.mov (.tmp 9), .some 66)), (none, (.iadr 1 (.tmp 65) (.tmp 66), .some 67)), (none, (.load none (.tmp 67), .some 68)), (none, (.mx .true (.tmp 64) (.tmp 68), .some 69)), (none, (.mov (.tmp 69), .some 8))] [])))
  (.reg [(none, (.mov (.tmp 9), .some 54)), (none, (.bin .add (.tmp 54) (.const (.int .i64 1)), .some 55)), (none, (.mov (.tmp 55), .some 9))] [])))))) (.seq
  (.reg [(none, (.mov (.tmp 1), .some 71)), (none, (.call (.func 33) [.tmp 71], .some 72)), (none, (.mov (.tmp 72), .some 70)), (none, (.ext (.tmp 70) 0, .some 73)), (none, (.ext (.tmp 70) 1, .some 74)), (none, (.mov (.tmp 73), .some 10)), (none, (.mov (.tmp 74), .some 11))] []) (.seq
  (.reg [(none, (.mov (.tmp 11), .some 75)), (none, (.mov (.tmp 7), .some 76)), (none, (.eqb .false (.tmp 75) (.tmp 76), .some 77)), (none, (.mov (.tmp 77), .some 78)), (.some (78, .true), (.mov (.tmp 7), .some 79)), (.some (78, .true), (.un .not (.tmp 79), .some 80)), (.some (78, .true), (.mov (.tmp 80), .some 81)), (.some (81, .false), (.mov (.tmp 10), .some 82)), (.some (81, .false), (.mov (.tmp 8), .some 83)), (.some (81, .false), (.bin .eql (.tmp 82) (.tmp 83), .some 84)), (.some (78, .true), (.pick (.tmp 81) (.const (.bool .true)) (.tmp 84), .some 85)), (none, (.pick (.tmp 78) (.tmp 85) (.const (.bool .false)), .some 86)), (none, (.mov (.tmp 86), .some 87)), (.some (87, .true), (.mov (.tmp 7), .some 88)), (.some (87, .true), (.mov (.tmp 88), .some 89)), (.some (89, .false), (.mov (.tmp 10), .some 90)), (.some (89, .false), (.bin .eql (.tmp 90) (.const (.int .u64 0)), .some 91)), (.some (87, .true), (.pick (.tmp 89) (.const (.bool .true)) (.tmp 91), .some 92)), (none, (.pick (.tmp 87) (.tmp 92) (.const (.bool .false)), .some 93)), (none, (.mov (.tmp 93), .some 94)), (.some (94, .true), (.call (.func 30) [], .some 95)), (none, (.pick (.tmp 94) (.tmp 95) (.const (.bool .false)), .some 96)), (none, (.mov (.tmp 96), .some 4))] []) .ret)))))))
theorem b4 : Try.f4.body.bind (compC Try.prog) = some c4 := by kernel_rfl
theorem r4 : compR Try.prog Try.f4 = .some [.tmp 4] := by kernel_rfl
theorem n4 : (Try.f4.name == "runtime.NumGoroutine") = false := by kernel_rfl
def c7 : C := .seq
  (.reg [(none, (.mov (.const (.bool .false)), .some 6))] []) (.seq (.seq
  (.reg [(none, (.mov (.tmp 1), .some 15)), (none, (.len .false (.tmp 15), .some 16)), (none, (.bin .gtr (.tmp 16) (.const (.int .i64 200)), .some 17)), (none, (.mov (.tmp 17), .some 18)), (.some (18, .false), (.mov (.tmp 0), .some 19)), (.some (18, .false), (.mov (.tmp 1), .some 20)), (.some (18, .false), (.call (.func 50) [.tmp 19, .tmp 20], .some 21)), (.some (18, .false), (.un .not (.tmp 21), .some 22)), (none, (.pick (.tmp 18) (.const (.bool .true)) (.tmp 22), .some 23)), (none, (.mov (.tmp 23), .some 24)), (.some (24, .false), (.mov (.tmp 0), .some 25)), (.some (24, .false), (.mov (.tmp 2), .some 26)), (.some (24, .false), (.bin .add (.tmp 25) (.tmp 26), .some 27)), (.some (24, .false), (.mov (.tmp 2), .some 28)), (.some (24, .false), (.bin .lss (.tmp 27) (.tmp 28), .some 29)), (none, (.pick (.tmp 24) (.const (.bool .true)) (.tmp 29), .some 30))] []) (.cond (.tmp 30) (.seq
  (.reg [(none, (.call (.func 51) [], .some 31)), (none, (.mov (.tmp 31), .some 6))] []) .ret) .skip)) (.seq
  (.reg [(none, (.mov (.const (.slice none 0 0)), .some 7))] []) (.seq (.seq
  (.reg [(none, (.mov (.const (.int .i64 0)), .some 8))] []) (.block 0 (.loop (.seq (.seq
  (.reg [(none, (.mov (.tmp 8), .some 32)), (none, (.mov (.tmp 1), .some 33)), (none, (.len .false (.tmp 33), .some 34)), (none, (.bin .lss (.tmp 32) (.tmp 34), .some 35))] []) (.cond (.tmp 35) .skip (.exit 0))) (.seq (.block 1
  (.reg [(none, (.mov (.tmp 7), .some 38)), (none, (.mov (.tmp 1), .some 39)), (none, (.mov (.tmp 8), .some 40)), (none, (.iadr 1 (.tmp 39) (.tmp 40), .some 41)), (none, (.load none (.tmp 41), .some 42)), (none, (.mov (.tmp 2), .some 43)), (none, (.bin .add (.tmp 42) (.tmp 43), .some 44)), (none, (.bsl 1 [.tmp 44], .some 45)), (none, (.app 1 8 (.tmp 38) (.tmp 45), .some 46)), (none, (.mov (.tmp 46), .some 7))] []))
  (.reg [(none, (.mov (.tmp 8), .some 36)), (none, (.bin .add (.tmp 36) (.const (.int .i64 1)), .some 37)), (none, (.mov (.tmp 37), .some 8))] [])))))) (.seq
  (.reg [(none, (.mov (.tmp 0), .some 48)), (none, (.mov (.tmp 1), .some 49)), (none, (.call (.func 52) [.tmp 48, .tmp 49], .some 50)), (none, (.mov (.tmp 50), .some 47)), (none, (.ext (.tmp 47) 0, .some 51)), (none, (.ext (.tmp 47) 1, .some 52)), (none, (.mov (.tmp 51), .some 9)), (none, (.mov (.tmp 52), .some 10))] []) (.seq
  (.reg [(none, (.mov (.tmp 0), .some 54)), (none, (.mov (.tmp 2), .some 55)), (none, (.bin .add (.tmp 54) (.tmp 55), .some 56)), (none, (.mov (.tmp 7), .some 57)), (none, (.call (.func 52) [.tmp 56, .tmp 57], .some 58)), (none, (.mov (.tmp 58), .some 53)), (none, (.ext (.tmp 53) 0, .some 59)), (none, (.ext (.tmp 53) 1, .some 60)), (none, (.mov (.tmp 59), .some 11)), (none, (.mov (.tmp 60), .some 12))] []) (.seq
  (.reg [(none, (.mov (.tmp 0), .some 62)), (none, (.mov (.tmp 2), .some 63)), (none, (.bin .add (.tmp 62) (.tmp 63), .some 64)), (none, (.mov (.tmp 9), .some 65)), (none, (.call (.func 53) [.tmp 64, .tmp 65], .some 66)), (none, (.mov (.tmp 66), .some 61)), (none, (.ext (.tmp 61) 0, .some 67)), (none, (.ext (.tmp 61) 1, .some 68)), (none, (.mov (.tmp 67), .some 13)), (none, (.mov (.tmp 68), .some 14))] []) (.seq
  (.reg [(none, (.mov (.tmp 10), .some 69)), (none, (.mov (.tmp 69), .some 70)), (.some (70, .true), (.mov (.tmp 12), .some 71)), (none, (.pick (.tmp 70) (.tmp 71) (.const (.bool .false)), .some 72)), (none, (.mov (.tmp 72), .some 73)), (.some (73, .true), (.mov (.tmp 14), .some 74)), (none, (.pick (.tmp 73) (.tmp 74) (.const (.bool .false)), .some 75)), (none, (.mov (.tmp 75), .some 76)), (.some (76, .true), (.mov (.tmp 9), .some 77)), (.some (76, .true), (.mov (.tmp 11), .some 78)), (.some (76, .true), (.call (.func 54) [.tmp 77, .tmp 78], .some 79)), (none, (.pick (.tmp 76) (.tmp 79) (.const (.bool .false)), .some 80)), (none, (.mov (.tmp 80), .some 81)), (.some (81, .true), (.mov (.tmp 13), .some 82)), (.some (81, .true), (.mov (.tmp 7), .some 83)), (.some (81, .true), (.call (.func 54) [.tmp 82, .tmp 83], .some 84)), (none, (.pick (.tmp 81) (.tmp 84) (.const (.bool .false)), .some 85)), (none, (.mov (.tmp 85), .some 86)), (.some (86, .true), (.call (.func 51) [], .some 87)), (none, (.pick (.tmp 86) (.tmp 87) (.const (.bool .false)), .some 88)), (none, (.mov (.tmp 88), .some 6))] []) .ret)))))))
theorem b7 : Try.f7.body.bind (compC Try.prog) = some c7 := by kernel_rfl
theorem r7 : compR Try.prog Try.f7 = .some [.tmp 6] := by kernel_rfl
theorem n7 : (Try.f7.name == "runtime.NumGoroutine") = false := by kernel_rfl
def c16 : C := .seq
  (.reg [(none, (.mov (.const (.bool .false)), .some 4))] []) (.seq (.seq
  (.reg [(none, (.mov (.tmp 0), .some 13)), (none, (.len .false (.tmp 13), .some 14)), (none, (.bin .gtr (.tmp 14) (.const (.int .i64 100)), .some 15))] []) (.cond (.tmp 15) (.seq
  (.reg [(none, (.call (.func 66) [], .some 16)), (none, (.mov (.tmp 16), .some 4))] []) .ret) .skip)) (.seq
  (.reg [(none, (.mov (.tmp 0), .some 17)), (none, (.call (.func 88) [.tmp 17], .some 18)), (none, (.mov (.tmp 18), .some 5))] []) (.seq
  (.reg [(none, (.mov (.tmp 0), .some 20)), (none, (.mov (.tmp 1), .some 21)), (none, (.call (.func 89) [.tmp 20, .tmp 21], .some 22)), (none, (.mov (.tmp 22), .some 19)), (none, (.ext (.tmp 19) 0, .some 23)), (none, (.ext (.tmp 19) 1, .some 24)), (none, (.mov (.tmp 23), .some 6)), (none, (.mov (.tmp 24), .some 7))] []) (.seq (.seq
  (.reg [(none, (.mov (.tmp 0), .some 25)), (none, (.call (.func 69) [.tmp 25], .some 26)), (none, (.un .not (.tmp 26), .some 27)), (none, (.mov (.tmp 27), .some 28)), (.some (28, .false), (.mov (.tmp 0), .some 29)), (.some (28, .false), (.len .false (.tmp 29), .some 30)), (.some (28, .false), (.bin .eql (.tmp 30) (.const (.int .i64 0)), .some 31)), (none, (.pick (.tmp 28) (.const (.bool .true)) (.tmp 31), .some 32))] []) (.cond (.tmp 32) (.seq
  (.reg [(none, (.mov (.tmp 5), .some 33)), (none, (.len .false (.tmp 33), .some 34)), (none, (.bin .eql (.tmp 34) (.const (.int .i64 0)), .some 35)), (none, (.mov (.tmp 35), .some 36)), (.some (36, .true), (.mov (.tmp 7), .some 37)), (.some (36, .true), (.un .not (.tmp 37), .some 38)), (none, (.pick (.tmp 36) (.tmp 38) (.const (.bool .false)), .some 39)), (none, (.mov (.tmp 39), .some 40)), (.some (40, .true), (.mov (.tmp 6), .some 41)), (.some (40, .true), (.bin .eql (.tmp 41) (.const (.int .u64 0)), .some 42)), (none, (.pick (.tmp 40) (.tmp 42) (.const (.bool .false)), .some 43)), (none, (.mov (.tmp 43), .some 44)), (.some (44, .true), (.call (.func 66) [], .some 45)), (none, (.pick (.tmp 44) (.tmp 45) (.const (.bool .false)), .some 46)), (none, (.mov (.tmp 46), .some 4))] []) .ret) .skip)) (.seq
  (.reg [(none, (.mov (.tmp 0), .some 47)), (none, (.iadr 3 (.tmp 47) (.const (.int .i64 0)), .some 48)), (none, (.fadr 0 (.tmp 48), .some 49)), (none, (.load none (.tmp 49), .some 50)), (none, (.mov (.tmp 50), .some 8)), (none, (.mov (.const (.int .i64 0)), .some 9))] []) (.seq (.seq
  (.reg [(none, (.mov (.const (.int .i64 0)), .some 10))] []) (.block 0 (.loop (.seq (.seq
  (.reg [(none, (.mov (.tmp 10), .some 51)), (none, (.mov (.tmp 0), .some 52)), (none, (.len .false (.tmp 52), .some 53)), (none, (.bin .lss (.tmp 51) (.tmp 53), .some 54))] []) (.cond (.tmp 54) .skip (.exit 0))) (.seq (.block 1 (.seq (.seq
  (.reg [(none, (.mov (.tmp 8), .some 57)), (none, (.mov (.tmp 0), .some 58)), (none, (.mov (.tmp 10), .some 59)), (none, (.iadr 3 (.tmp 58) (.tmp 59), .some 60)), (none, (.fadr 0 (.tmp 60), .some 61)), (none, (.load none (.tmp 61), .some 62)), (none, (.bin .lss (.tmp 57) (.tmp 62), .some 63))] []) (.cond (.tmp 63) (.seq (.seq
  (.reg [(none, (.mov (.tmp 9), .some 64)), (none, (.mov (.tmp 5), .some 65)), (none, (.len .false (.tmp 65), .some 66)), (none, (.bin .geq (.tmp 64) (.tmp 66), .some 67)), (none, (.mov (.tmp 67), .some 68)), (.some (68, .false), (.mov (.tmp 5), .some 69)), (.some (68, .false), (.mov (.tmp 9), .some 70)), (.some (68, .false), (.iadr 2 (.tmp 69) (.tmp 70), .some 71)), (.some (68, .false), (.load (.some 2) (.tmp 71), .some 72)), (.some (68, .false), (.mov (.tmp 8), .some 73)), (.some (68, .false), (.mov (.tmp 0), .some 74)), (.some (68, .false), (.mov (.tmp 10), .some 75)), (.some (68, .false), (.iadr 3 (.tmp 74) (.tmp 75), .some 76)), (.some (68, .false), (.fadr 0 (.tmp 76), .some 77)), (.some (68, .false), (.load none (.tmp 77), .some 78)), (.some (68, .false), (.build [.int .u64 0, .int .u64 0] [(0, (1, .tmp 73)), (1, (1, .tmp 78))], .some 79)), (.some (68, .false), (.eqa .true 2 (.tmp 72) (.tmp 79), .some 80)), (none, (.pick (.tmp 68) (.const (.bool .true)) (.tmp 80), .some 81))] [(8, 14)]) (.cond (.tmp 81) (.seq
  (.reg [(none, (.mov (.const (.bool .false)), .some 4))] []) .ret) .skip))
  (.reg [(none, (.mov (.tmp 9), .some 82)), (none, (.bin .add (.tmp 82) (.const (.int .i64 1)), .some 83)), (none, (.mov (.tmp 83), .some 9))] [])) .skip))
  (.reg [(none, (.mov (.tmp 0), .some 84)), (none, (.mov (.tmp 10), .some 85)), (none, (.iadr 3 (.tmp 84) (.tmp 85), .some 86)), (none, (.fadr 0 (.tmp 86), .some 87)), (none, (.load none (.tmp 87), .some 88)), (none, (.mov (.tmp 0), .some 89)), (none, (.mov (.tmp 10), .some 90)), (none, (.iadr 3 (.tmp 89) (.tmp 90), .some 91)), (none, (.fadr 1 (.tmp 91), .some 92)), (none, (.load none (.tmp 92), .some 93)), (none, (.cvt .u64 (.tmp 93), .some 94)), (none, (.bin .add (.tmp 88) (.tmp 94), .some 95)), (none, (.mov (.tmp 95), .some 8))] [(4, 9)])))
  (.reg [(none, (.mov (.tmp 10), .some 55)), (none, (.bin .add (.tmp 55) (.const (.int .i64 1)), .some 56)), (none, (.mov (.tmp 56), .some 10))] [])))))) (.seq (.seq
  (.reg [(none, (.mov (.tmp 9), .some 96)), (none, (.mov (.tmp 5), .some 97)), (none, (.len .false (.tmp 97), .some 98)), (none, (.bin .neq (.tmp 96) (.tmp 98), .some 99)), (none, (.mov (.tmp 99), .some 100)), (.some (100, .false), (.mov (.tmp 7), .some 101)), (.some (100, .false), (.mov (.tmp 1), .some 102)), (.some (100, .false), (.mov (.tmp 8), .some 103)), (.some (100, .false), (.bin .lss (.tmp 102) (.tmp 103), .some 104)), (.some (100, .false), (.eqb .true (.tmp 101) (.tmp 104), .some 105)), (none, (.pick (.tmp 100) (.const (.bool .true)) (.tmp 105), .some 106))] []) (.cond (.tmp 106) (.seq
  (.reg [(none, (.mov (.const (.bool .false)), .some 4))] []) .ret) .skip)) (.seq (.seq
  (.reg [(none, (.mov (.tmp 7), .some 107)), (none, (.un .not (.tmp 107), .some 108))] []) (.cond (.tmp 108) (.seq
  (.reg [(none, (.mov (.tmp 6), .some 109)), (none, (.bin .eql (.tmp 109) (.const (.int .u64 0)), .some 110)), (none, (.mov (.tmp 110), .some 111)), (.some (111, .true), (.call (.func 66) [], .some 112)), (none, (.pick (.tmp 111) (.tmp 112) (.const (.bool .false)), .some 113)), (none, (.mov (.tmp 113), .some 4))] []) .ret) .skip)) (.seq
  (.reg [(none, (.mov (.tmp 6), .some 114)), (none, (.mov (.tmp 1), .some 115)), (none, (.bin .gtr (.tmp 114) (.tmp 115), .some 116)), (none, (.mov (.tmp 116), .some 11))] []) (.seq (.seq
  (.reg [(none, (.mov (.const (.int .i64 0)), .some 12))] []) (.block 2 (.loop (.seq (.seq
  (.reg [(none, (.mov (.tmp 12), .some 117)), (none, (.mov (.tmp 0), .some 118)), (none, (.len .false (.tmp 118), .some 119)), (none, (.bin .lss (.tmp 117) (.tmp 119), .some 120))] []) (.cond (.tmp 120) .skip (.exit 2))) (.seq (.block 3 (.seq (.seq
  (.reg [(none, (.mov (.tmp 1), .some 123)), (none, (.mov (.tmp 0), .some 124)), (none, (.mov (.tmp 12), .some 125)), (none, (.iadr 3 (.tmp 124) (.tmp 125), .some 126)), (none, (.fadr 0 (.tmp 126), .some 127)), (none, (.load none (.tmp 127), .some 128)), (none, (.bin .geq (.tmp 123) (.tmp 128), .some 129)), (none, (.mov (.tmp 129), .some 130)), (.some (130, .true), (.mov (.tmp 1), .some 131)), (.some (130, .true), (.mov (.tmp 0), .some 132)), (.some (130, .true), (.mov (.tmp 12), .some 133)), (.some (130, .true), (.iadr 3 (.tmp 132) (.tmp 133), .some 134)), (.some (130, .true), (.fadr 0 (.tmp 134), .some 135)), (.some (130, .true), (.load none (.tmp 135), .some 136)), (.some (130, .true), (.mov (.tmp 0), .some 137)), (.some (130, .true), (.mov (.tmp 12), .some 138)), (.some (130, .true), (.iadr 3 (.tmp 137) (.tmp 138), .some 139)), (.some (130, .true), (.fadr 1 (.tmp 139), .some 140)), (.some (130, .true), (.load none (.tmp 140), .some 141)), (.some (130, .true), (.cvt .u64 (.tmp 141), .some 142)), (.some (130, .true), (.bin .add (.tmp 136) (.tmp 142), .some 143)), (.some (130, .true), (.bin .lss (.tmp 131) (.tmp 143), .some 144)), (none, (.pick (.tmp 130) (.tmp 144) (.const (.bool .false)), .some 145))] [(13, 18)]) (.cond (.tmp 145)
  (.reg [(none, (.mov (.tmp 6), .some 146)), (none, (.mov (.tmp 1), .some 147)), (none, (.bin .eql (.tmp 146) (.tmp 147), .some 148)), (none, (.mov (.tmp 148), .some 11))] []) .skip)) (.seq
  (.reg [(none, (.mov (.tmp 0), .some 149)), (none, (.mov (.tmp 12), .some 150)), (none, (.iadr 3 (.tmp 149) (.tmp 150), .some 151)), (none, (.fadr 0 (.tmp 151), .some 152)), (none, (.load none (.tmp 152), .some 153)), (none, (.mov (.tmp 1), .some 154)), (none, (.bin .gtr (.tmp 153) (.tmp 154), .some 155)), (none, (.mov (.tmp 155), .some 156)), (.some (156, .true), (.mov (.tmp 0), .some 157)), (.some (156, .true), (.mov (.tmp 12), .some 158)), (.some (156, .true), (.iadr 3 (.tmp 157) (.tmp 158), .some 159)), (.some (156, .true), (.fadr 0 (.tmp 159), .some 160)), (.some (156, .true), (.load none (.tmp 160), .some 161)), (.some (156, .true), (.mov (.tmp 6), .some 162)), (.some (156, .true), (.bin .lss (.tmp 161) (.tmp 162), .some 163)), (none, (.pick (.tmp 156) (.tmp 163) (.const (.bool .false)), .some 164))] []) (.cond (.tmp 164) (.seq
  (.reg [(none, (.mov (.const (.bool .false)), .some 4))] []) .ret) .skip))))
  (.reg [(none, (.mov (.tmp 12), .some 121)), (none, (.bin .add (.tmp 121) (.const (.int .i64 1)), .some 122)), (none, (.mov (.tmp 122), .some 12))] [])))))) (.seq
  (.reg [(none, (.mov (.tmp 11), .some 165)), (none, (.mov (.tmp 165), .some 166)), (.some (166, .true), (.mov (.tmp 0), .some 167)), (.some (166, .true), (.mov (.tmp 6), .some 168)), (.some (166, .true), (.call (.func 71) [.tmp 167, .tmp 168], .some 169)), (.some (166, .true), (.bin .geq (.tmp 169) (.const (.int .i64 0)), .some 170)), (none, (.pick (.tmp 166) (.tmp 170) (.const (.bool .false)), .some 171)), (none, (.mov (.tmp 171), .some 172)), (.some (172, .true), (.call (.func 66) [], .some 173)), (none, (.pick (.tmp 172) (.tmp 173) (.const (.bool .false)), .some 174)), (none, (.mov (.tmp 174), .some 4))] []) .ret)))))))))))
theorem b16 : Try.f16.body.bind (compC Try.prog) = some c16 := by kernel_rfl
theorem r16 : compR Try.prog Try.f16 = .some [.tmp 4] := by kernel_rfl
theorem n16 : (Try.f16.name == "runtime.NumGoroutine") = false := by kernel_rfl
def c19 : C := .seq
  (.reg [(none, (.mov (.const (.bool .false)), .some 4))] []) (.seq (.seq
  (.reg [(none, (.mov (.tmp 0), .some 9)), (none, (.len .false (.tmp 9), .some 10)), (none, (.bin .gtr (.tmp 10) (.const (.int .i64 300)), .some 11))] []) (.cond (.tmp 11) (.seq
  (.reg [(none, (.call (.func 57) [], .some 12)), (none, (.mov (.tmp 12), .some 4))] []) .ret) .skip)) (.seq
  (.reg [(none, (.mov (.tmp 0), .some 13)), (none, (.call (.func 73) [.tmp 13], .some 14)), (none, (.mov (.tmp 14), .some 5))] []) (.seq
  (.reg [(none, (.mov (.tmp 5), .some 15)), (none, (.mov (.tmp 1), .some 16)), (none, (.call (.func 98) [.tmp 15, .tmp 16], .some 17)), (none, (.mov (.tmp 17), .some 6))] []) (.seq
  (.reg [(none, (.mov (.tmp 0), .some 19)), (none, (.build [.slice none 0 0, .int .i64 0, .int .i64 0, .int .i64 0] [(0, (1, .tmp 19))], .some 20)), (none, (.mov (.tmp 1), .some 21)), (none, (.call (.func 99) [.tmp 20, .tmp 21], .some 22)), (none, (.mov (.tmp 22), .some 18)), (none, (.ext (.tmp 18) 0, .some 23)), (none, (.ext (.tmp 18) 1, .some 24)), (none, (.new [.slice none 0 0, .int .i64 0, .int .i64 0, .int .i64 0], .some 7)), (none, (.store 4 (.tmp 7) (.tmp 23), none)), (none, (.mov (.tmp 24), .some 8))] []) (.seq
  (.reg [(none, (.mov (.tmp 6), .some 25)), (none, (.mov (.tmp 8), .some 26)), (none, (.call (.func 54) [.tmp 25, .tmp 26], .some 27)), (none, (.mov (.tmp 27), .some 28)), (.some (28, .true), (.mov (.tmp 5), .some 29)), (.some (28, .true), (.call (.func 78) [.tmp 29], .some 30)), (.some (28, .true), (.fadr 2 (.tmp 7), .some 31)), (.some (28, .true), (.load (.some 2) (.tmp 31), .some 32)), (.some (28, .true), (.eqa .false 2 (.tmp 30) (.tmp 32), .some 33)), (none, (.pick (.tmp 28) (.tmp 33) (.const (.bool .false)), .some 34)), (none, (.mov (.tmp 34), .some 35)), (.some (35, .true), (.fadr 2 (.tmp 7), .some 36)), (.some (35, .true), (.fadr 0 (.tmp 36), .some 37)), (.some (35, .true), (.load none (.tmp 37), .some 38)), (.some (35, .true), (.bin .neq (.tmp 38) (.const (.int .i64 0)), .some 39)), (.some (35, .true), (.mov (.tmp 39), .some 40)), (.some (40, .false), (.mov (.tmp 5), .some 41)), (.some (40, .false), (.call (.func 79) [.tmp 41], .some 42)), (.some (40, .false), (.fadr 1 (.tmp 7), .some 43)), (.some (40, .false), (.load none (.tmp 43), .some 44)), (.some (40, .false), (.bin .eql (.tmp 42) (.tmp 44), .some 45)), (.some (40, .false), (.mov (.tmp 45), .some 46)), (.some (46, .true), (.mov (.tmp 6), .some 47)), (.some (46, .true), (.call (.func 59) [.tmp 47], .some 48)), (.some (40, .false), (.pick (.tmp 46) (.tmp 48) (.const (.bool .false)), .some 49)), (.some (35, .true), (.pick (.tmp 40) (.const (.bool .true)) (.tmp 49), .some 50)), (none, (.pick (.tmp 35) (.tmp 50) (.const (.bool .false)), .some 51)), (none, (.mov (.tmp 51), .some 52)), (.some (52, .true), (.call (.func 57) [], .some 53)), (none, (.pick (.tmp 52) (.tmp 53) (.const (.bool .false)), .some 54)), (none, (.mov (.tmp 54), .some 4))] [(5, 7), (17, 19)]) .ret)))))
theorem b19 : Try.f19.body.bind (compC Try.prog) = some c19 := by kernel_rfl
theorem r19 : compR Try.prog Try.f19 = .some [.tmp 4] := by kernel_rfl
theorem n19 : (Try.f19.name == "runtime.NumGoroutine") = false := by kernel_rfl
def c21 : C := .seq
  (.reg [(none, (.mov (.const (.bool .false)), .some 6))] []) (.seq (.seq
  (.reg [(none, (.mov (.tmp 0), .some 11)), (none, (.len .false (.tmp 11), .some 12)), (none, (.bin .gtr (.tmp 12) (.const (.int .i64 300)), .some 13))] []) (.cond (.tmp 13) (.seq
  (.reg [(none, (.call (.func 51) [], .some 14)), (none, (.mov (.tmp 14), .some 6))] []) .ret) .skip)) (.seq
  (.reg [(none, (.mov (.tmp 0), .some 15)), (none, (.call (.func 73) [.tmp 15], .some 16)), (none, (.mov (.tmp 16), .some 7))] []) (.seq
  (.reg [(none, (.mov (.tmp 7), .some 17)), (none, (.mov (.tmp 1), .some 18)), (none, (.mov (.tmp 2), .some 19)), (none, (.call (.func 103) [.tmp 17, .tmp 18, .tmp 19], .some 20)), (none, (.mov (.tmp 20), .some 8))] []) (.seq
  (.reg [(none, (.mov (.tmp 0), .some 22)), (none, (.build [.slice none 0 0, .int .i64 0, .int .i64 0, .int .i64 0] [(0, (1, .tmp 22))], .some 23)), (none, (.mov (.tmp 1), .some 24)), (none, (.mov (.tmp 2), .some 25)), (none, (.call (.func 104) [.tmp 23, .tmp 24, .tmp 25], .some 26)), (none, (.mov (.tmp 26), .some 21)), (none, (.ext (.tmp 21) 0, .some 27)), (none, (.ext (.tmp 21) 1, .some 28)), (none, (.new [.slice none 0 0, .int .i64 0, .int .i64 0, .int .i64 0], .some 9)), (none, (.store 4 (.tmp 9) (.tmp 27), none)), (none, (.mov (.tmp 28), .some 10))] []) (.seq (.seq
  (.reg [(none, (.mov (.tmp 8), .some 29)), (none, (.mov (.tmp 10), .some 30)), (none, (.call (.func 54) [.tmp 29, .tmp 30], .some 31)), (none, (.un .not (.tmp 31), .some 32)), (none, (.mov (.tmp 32), .some 33)), (.some (33, .false), (.mov (.tmp 7), .some 34)), (.some (33, .false), (.call (.func 78) [.tmp 34], .some 35)), (.some (33, .false), (.fadr 2 (.tmp 9), .some 36)), (.some (33, .false), (.load (.some 2) (.tmp 36), .some 37)), (.some (33, .false), (.eqa .true 2 (.tmp 35) (.tmp 37), .some 38)), (none, (.pick (.tmp 33) (.const (.bool .true)) (.tmp 38), .some 39))] [(6, 8)]) (.cond (.tmp 39) (.seq
  (.reg [(none, (.mov (.const (.bool .false)), .some 6))] []) .ret) .skip)) (.seq (.seq
  (.reg [(none, (.fadr 2 (.tmp 9), .some 40)), (none, (.fadr 0 (.tmp 40), .some 41)), (none, (.load none (.tmp 41), .some 42)), (none, (.bin .neq (.tmp 42) (.const (.int .i64 0)), .some 43))] []) (.cond (.tmp 43) (.seq
  (.reg [(none, (.mov (.tmp 8), .some 44)), (none, (.len .false (.tmp 44), .some 45)), (none, (.bin .eql (.tmp 45) (.const (.int .i64 0)), .some 46)), (none, (.mov (.tmp 46), .some 47)), (.some (47, .true), (.call (.func 51) [], .some 48)), (none, (.pick (.tmp 47) (.tmp 48) (.const (.bool .false)), .some 49)), (none, (.mov (.tmp 49), .some 6))] []) .ret) .skip)) (.seq
  (.reg [(none, (.mov (.tmp 7), .some 50)), (none, (.call (.func 79) [.tmp 50], .some 51)), (none, (.fadr 1 (.tmp 9), .some 52)), (none, (.load none (.tmp 52), .some 53)), (none, (.bin .eql (.tmp 51) (.tmp 53), .some 54)), (none, (.mov (.tmp 54), .some 55)), (.some (55, .true), (.mov (.tmp 1), .some 56)), (.some (55, .true), (.mov (.tmp 8), .some 57)), (.some (55, .true), (.call (.func 50) [.tmp 56, .tmp 57], .some 58)), (none, (.pick (.tmp 55) (.tmp 58) (.const (.bool .false)), .some 59)), (none, (.mov (.tmp 59), .some 60)), (.some (60, .true), (.mov (.tmp 1), .some 61)), (.some (60, .true), (.mov (.tmp 8), .some 62)), (.some (60, .true), (.call (.func 105) [.tmp 61, .tmp 62], .some 63)), (.some (60, .true), (.mov (.tmp 0), .some 64)), (.some (60, .true), (.fadr 1 (.tmp 9), .some 65)), (.some (60, .true), (.load none (.tmp 65), .some 66)), (.some (60, .true), (.slice 1 (.tmp 64) none (.some (.tmp 66)) none, .some 67)), (.some (60, .true), (.call (.func 41) [.tmp 63, .tmp 67], .some 68)), (none, (.pick (.tmp 60) (.tmp 68) (.const (.bool .false)), .some 69)), (none, (.mov (.tmp 69), .some 70)), (.some (70, .true), (.call (.func 51) [], .some 71)), (none, (.pick (.tmp 70) (.tmp 71) (.const (.bool .false)), .some 72)), (none, (.mov (.tmp 72), .some 6))] [(1, 3), (13, 16)]) .ret)))))))
theorem b21 : Try.f21.body.bind (compC Try.prog) = some c21 := by kernel_rfl
theorem r21 : compR Try.prog Try.f21 = .some [.tmp 6] := by kernel_rfl
theorem n21 : (Try.f21.name == "runtime.NumGoroutine") = false := by kernel_rfl
def c28 : C := .seq
  (.reg [(none, (.mov (.const (.int .i64 0)), .some 6))] []) (.seq (.block 0 (.seq
  (.reg [(none, (.mov (.tmp 0), .some 8)), (none, (.call (.func 34) [.tmp 8], .some 9)), (none, (.un .not (.tmp 9), .some 10)), (none, (.mov (.tmp 10), .some 11)), (.some (11, .false), (.mov (.tmp 2), .some 12)), (.some (11, .false), (.call (.func 34) [.tmp 12], .some 13)), (.some (11, .false), (.un .not (.tmp 13), .some 14)), (none, (.pick (.tmp 11) (.const (.bool .true)) (.tmp 14), .some 15)), (none, (.mov (.tmp 15), .some 7))] []) (.cond (.tmp 7) (.seq
  (.reg [(none, (.mov (.const (.int .i64 3)), .some 6))] []) .ret) (.seq
  (.reg [(none, (.mov (.tmp 2), .some 17)), (none, (.mov (.tmp 0), .some 18)), (none, (.bin .gtr (.tmp 17) (.tmp 18), .some 19)), (none, (.mov (.tmp 19), .some 16))] []) (.cond (.tmp 16) (.seq
  (.reg [(none, (.mov (.const (.int .i64 13)), .some 6))] []) .ret) (.seq
  (.reg [(none, (.mov (.tmp 2), .some 21)), (none, (.mov (.tmp 0), .some 22)), (none, (.bin .lss (.tmp 21) (.tmp 22), .some 23)), (none, (.mov (.tmp 23), .some 24)), (.some (24, .false), (.mov (.tmp 1), .some 25)), (none, (.pick (.tmp 24) (.const (.bool .true)) (.tmp 25), .some 26)), (none, (.mov (.tmp 26), .some 20))] []) (.cond (.tmp 20) (.seq
  (.reg [(none, (.mov (.const (.int .i64 18)), .some 6))] []) .ret) .skip))))))) (.seq
  (.reg [(none, (.mov (.const (.int .i64 0)), .some 6))] []) .ret))
theorem b28 : Try.f28.body.bind (compC Try.prog) = some c28 := by kernel_rfl
theorem r28 : compR Try.prog Try.f28 = .some [.tmp 6] := by kernel_rfl
theorem n28 : (Try.f28.name == "runtime.NumGoroutine") = false := by kernel_rfl
def c36 : C := .seq
  (.reg [(none, (.mov (.const (.bool .false)), .some 2))] []) (.seq
  (.reg [(none, (.mov (.tmp 0), .some 3)), (none, (.bin .leq (.tmp 3) (.const (.int .u64 4611686018427387903)), .some 4)), (none, (.mov (.tmp 4), .some 2))] []) .ret)
theorem b36 : Try.f36.body.bind (compC Try.prog) = some c36 := by kernel_rfl
theorem r36 : compR Try.prog Try.f36 = .some [.tmp 2] := by kernel_rfl
theorem n36 : (Try.f36.name == "runtime.NumGoroutine") = false := by kernel_rfl
def c39 : C := .reg [(none, (.mov (.tmp 0), .some 4)), (none, (.mov (.tmp 1), .some 5)), (none, (.mov (.tmp 1), .some 6)), (none, (.call (.func 35) [.tmp 6], .some 7)), (none, (.call (.func 122) [.tmp 4, .tmp 5, .tmp 7], .some 8))] []
theorem b39 : Try.f39.body.bind (compC Try.prog) = some c39 := by kernel_rfl
theorem r39 : compR Try.prog Try.f39 = .some [] := by kernel_rfl
theorem n39 : (Try.f39.name == "runtime.NumGoroutine") = false := by kernel_rfl
def c40 : C := .seq
  (.reg [(none, (.mov (.const (.slice none 0 0)), .some 2)), (none, (.mov (.const (.int .i64 0)), .some 3))] []) (.seq (.seq
  (.reg [(none, (.mov (.tmp 0), .some 5)), (none, (.call (.func 123) [.tmp 5], .some 6)), (none, (.mov (.tmp 6), .some 4))] []) (.seq
  (.reg [(none, (.mov (.tmp 4), .some 7)), (none, (.bin .neq (.tmp 7) (.const (.int .i64 0)), .some 8))] []) (.cond (.tmp 8) (.seq
  (.reg [(none, (.mov (.tmp 4), .some 9)), (none, (.mov (.const (.slice none 0 0)), .some 2)), (none, (.mov (.tmp 9), .some 3))] []) .ret) .skip))) (.seq
  (.reg [(none, (.bsl 1 [], .some 10)), (none, (.mov (.tmp 0), .some 11)), (none, (.nilc (.tmp 11), .some 12)), (none, (.fadr 1 (.tmp 12), .some 13)), (none, (.load none (.tmp 13), .some 14)), (none, (.app 1 1 (.tmp 10) (.tmp 14), .some 15)), (none, (.mov (.tmp 15), .some 2)), (none, (.mov (.const (.int .i64 0)), .some 3))] []) .ret))
theorem b40 : Try.f40.body.bind (compC Try.prog) = some c40 := by kernel_rfl
theorem r40 : compR Try.prog Try.f40 = .some [.tmp 2, .tmp 3] := by kernel_rfl
theorem n40 : (Try.f40.name == "runtime.NumGoroutine") = false := by kernel_rfl
def c41 : C := .seq
  (.reg [(none, (.mov (.const (.bool .false)), .some 4))] []) (.seq
  (.reg [(none, (.mov (.tmp 0), .some 5)), (none, (.b2s (.tmp 5), .some 6)), (none, (.mov (.tmp 1), .some 7)), (none, (.b2s (.tmp 7), .some 8)), (none, (.bin .eql (.tmp 6) (.tmp 8), .some 9)), (none, (.mov (.tmp 9), .some 4))] []) .ret)
theorem b41 : Try.f41.body.bind (compC Try.prog) = some c41 := by kernel_rfl
theorem r41 : compR Try.prog Try.f41 = .some [.tmp 4] := by kernel_rfl
theorem n41 : (Try.f41.name == "runtime.NumGoroutine") = false := by kernel_rfl
def c46 : C := .seq
  (.reg [(none, (.mov (.const (.slice none 0 0)), .some 2))] []) (.seq
  (.reg [(none, (.mov (.tmp 0), .some 3)), (none, (.len .false (.tmp 3), .some 4)), (none, (.cvt .u64 (.tmp 4), .some 5)), (none, (.call (.func 42) [.tmp 5], .some 6)), (none, (.mov (.tmp 0), .some 7)), (none, (.app 1 1 (.tmp 6) (.tmp 7), .some 8)), (none, (.mov (.tmp 8), .some 2))] []) .ret)
theorem b46 : Try.f46.body.bind (compC Try.prog) = some c46 := by kernel_rfl
theorem r46 : compR Try.prog Try.f46 = .some [.tmp 2] := by kernel_rfl
theorem n46 : (Try.f46.name == "runtime.NumGoroutine") = false := by kernel_rfl
def c48 : C := .seq
  (.reg [(none, (.mov (.const (.int .i64 0)), .some 2))] []) (.seq
  (.reg [(none, (.mov (.tmp 0), .some 3)), (none, (.mx .true (.tmp 3) (.const (.int .i64 0)), .some 4)), (none, (.mov (.tmp 4), .some 0))] []) (.seq
  (.reg [(none, (.mov (.tmp 0), .some 5)), (none, (.cvt .u64 (.tmp 5), .some 6)), (none, (.call (.func 72) [.tmp 6], .some 7)), (none, (.mov (.tmp 0), .some 8)), (none, (.bin .add (.tmp 7) (.tmp 8), .some 9)), (none, (.mov (.tmp 9), .some 2))] []) .ret))
theorem b48 : Try.f48.body.bind (compC Try.prog) = some c48 := by kernel_rfl
theorem r48 : compR Try.prog Try.f48 = .some [.tmp 2] := by kernel_rfl
theorem n48 : (Try.f48.name == "runtime.NumGoroutine") = false := by kernel_rfl
def c59 : C := .seq
  (.reg [(none, (.mov (.const (.bool .false)), .some 2))] []) (.seq (.seq
  (.reg [(none, (.mov (.const (.int .i64 0)), .some 3))] []) (.block 0 (.loop (.seq (.seq
  (.reg [(none, (.mov (.tmp 3), .some 4)), (none, (.bin .add (.tmp 4) (.const (.int .i64 1)), .some 5)), (none, (.mov (.tmp 0), .some 6)), (none, (.len .false (.tmp 6), .some 7)), (none, (.bin .lss (.tmp 5) (.tmp 7), .some 8))] []) (.cond (.tmp 8) .skip (.exit 0))) (.seq (.block 1 (.seq
  (.reg [(none, (.mov (.tmp 0), .some 11)), (none, (.mov (.tmp 3), .some 12)), (none, (.bin .add (.tmp 12) (.const (.int .i64 1)), .some 13)), (none, (.iadr 1 (.tmp 11) (.tmp 13), .some 14)), (none, (.load none (.tmp 14), .some 15)), (none, (.mov (.tmp 0), .some 16)), (none, (.mov (.tmp 3), .some 17)), (none, (.iadr 1 (.tmp 16) (.tmp 17), .some 18)), (none, (.load none (.tmp 18), .some 19)), (none, (.bin .leq (.tmp 15) (.tmp 19), .some 20))] [(4, 8)]) (.cond (.tmp 20) (.seq
  (.reg [(none, (.mov (.const (.bool .false)), .some 2))] []) .ret) .skip)))
  (.reg [(none, (.mov (.tmp 3), .some 9)), (none, (.bin .add (.tmp 9) (.const (.int .i64 1)), .some 10)), (none, (.mov (.tmp 10), .some 3))] [])))))) (.seq
  (.reg [(none, (.mov (.const (.bool .true)), .some 2))] []) .ret))
theorem b59 : Try.f59.body.bind (compC Try.prog) = some c59 := by kernel_rfl
theorem r59 : compR Try.prog Try.f59 = .some [.tmp 2] := by kernel_rfl
theorem n59 : (Try.f59.name == "runtime.NumGoroutine") = false := by kernel_rfl
def c61 : C := .seq
  (.reg [(none, (.mov (.const (.int .i64 0)), .some 2))] []) (.seq (.seq
  (.reg [(none, (.mov (.tmp 0), .some 6)), (none, (.call (.func 60) [.tmp 6], .some 7)), (none, (.un .not (.tmp 7), .some 8))] []) (.cond (.tmp 8) (.seq
  (.reg [(none, (.mov (.const (.int .i64 0)), .some 2))] []) .ret) .skip)) (.seq
  (.reg [(none, (.mov (.const (.int .i64 0)), .some 3))] []) (.seq (.seq
  (.reg [(none, (.mov (.tmp 0), .some 9)), (none, (.call (.func 125) [.tmp 9], .some 10)), (none, (.len .false (.tmp 10), .some 11)), (none, (.mov (.const (.int .i64 0)), .some 12))] []) (.block 0 (.loop (.seq
  (.reg [(none, (.bin .lss (.tmp 12) (.tmp 11), .some 13))] []) (.seq (.cond (.tmp 13) .skip (.exit 0)) (.seq (.block 1 (.seq
  (.reg [(none, (.iadr 1 (.tmp 10) (.tmp 12), .some 14)), (none, (.load none (.tmp 14), .some 15)), (none, (.mov (.tmp 15), .some 5))] [])
  (.reg [(none, (.mov (.tmp 3), .some 16)), (none, (.mov (.tmp 5), .some 17)), (none, (.call (.func 72) [.tmp 17], .some 18)), (none, (.bin .add (.tmp 16) (.tmp 18), .some 19)), (none, (.mov (.tmp 19), .some 3))] [])))
  (.reg [(none, (.bin .add (.tmp 12) (.const (.int .i64 1)), .some 20)), (none, (.mov (.tmp 20), .some 12))] []))))))) (.seq
  (.reg [(none, (.mov (.tmp 3), .some 21)), (none, (.mov (.tmp 21), .some 2))] []) .ret))))
theorem b61 : Try.f61.body.bind (compC Try.prog) = some c61 := by kernel_rfl
theorem r61 : compR Try.prog Try.f61 = .some [.tmp 2] := by kernel_rfl
theorem n61 : (Try.f61.name == "runtime.NumGoroutine") = false := by kernel_rfl
def c64 : C := .seq
  (.reg [(none, (.mov (.const (.int .u64 0)), .some 2)), (none, (.mov (.const (.int .i64 0)), .some 3)), (none, (.new [.int .i64 0, .int .i64 0], .some 4))] []) (.seq
  (.reg [(none, (.mov (.tmp 0), .some 7)), (none, (.call (.func 73) [.tmp 7], .some 8)), (none, (.mov (.tmp 8), .some 5))] []) (.seq
  (.reg [(none, (.mov (.tmp 5), .some 9)), (none, (.call (.func 85) [.tmp 9], .some 10)), (none, (.mov (.tmp 10), .some 6))] []) (.seq (.seq
  (.reg [(none, (.mov (.tmp 5), .some 11)), (none, (.call (.func 102) [.tmp 11], .some 12)), (none, (.un .not (.tmp 12), .some 13))] []) (.cond (.tmp 13) (.seq
  (.reg [(none, (.mov (.tmp 5), .some 14)), (none, (.call (.func 78) [.tmp 14], .some 15)), (none, (.mov (.const (.int .u64 0)), .some 2)), (none, (.mov (.const (.int .i64 0)), .some 3)), (none, (.store 2 (.tmp 4) (.tmp 15), none))] []) .ret) .skip)) (.seq
  (.reg [(none, (.mov (.tmp 6), .some 16)), (none, (.mov (.tmp 5), .some 17)), (none, (.call (.func 79) [.tmp 17], .some 18)), (none, (.build [.int .i64 0, .int .i64 0] [], .some 19)), (none, (.mov (.tmp 16), .some 2)), (none, (.mov (.tmp 18), .some 3)), (none, (.store 2 (.tmp 4) (.tmp 19), none))] []) .ret))))
theorem b64 : Try.f64.body.bind (compC Try.prog) = some c64 := by kernel_rfl
theorem r64 : compR Try.prog Try.f64 = .some [.tmp 2, .tmp 3, .cell 4 (.some 2)] := by kernel_rfl
theorem n64 : (Try.f64.name == "runtime.NumGoroutine") = false := by kernel_rfl
def c69 : C := .seq
  (.reg [(none, (.mov (.const (.bool .false)), .some 2))] []) (.seq (.seq
  (.reg [(none, (.mov (.tmp 0), .some 5)), (none, (.len .false (.tmp 5), .some 6)), (none, (.bin .gtr (.tmp 6) (.const (.int .i64 16)), .some 7))] []) (.cond (.tmp 7) (.seq
  (.reg [(none, (.mov (.const (.bool .false)), .some 2))] []) .ret) .skip)) (.seq (.seq
  (.reg [(none, (.mov (.const (.int .i64 0)), .some 3))] []) (.block 0 (.loop (.seq (.seq
  (.reg [(none, (.mov (.tmp 3), .some 8)), (none, (.mov (.tmp 0), .some 9)), (none, (.len .false (.tmp 9), .some 10)), (none, (.bin .lss (.tmp 8) (.tmp 10), .some 11))] []) (.cond (.tmp 11) .skip (.exit 0))) (.seq (.block 1 (.seq
  (.reg [(none, (.mov (.tmp 0), .some 14)), (none, (.mov (.tmp 3), .some 15)), (none, (.iadr 3 (.tmp 14) (.tmp 15), .some 16)), (none, (.load (.some 3) (.tmp 16), .some 17)), (none, (.new [.int .u64 0, .int .i64 0, .int .i64 0], .some 4)), (none, (.store 3 (.tmp 4) (.tmp 17), none))] []) (.seq (.seq
  (.reg [(none, (.fadr 1 (.tmp 4), .some 18)), (none, (.load none (.tmp 18), .some 19)), (none, (.bin .lss (.tmp 19) (.const (.int .i64 1)), .some 20)), (none, (.mov (.tmp 20), .some 21)), (.some (21, .false), (.fadr 1 (.tmp 4), .some 22)), (.some (21, .false), (.load none (.tmp 22), .some 23)), (.some (21, .false), (.bin .gtr (.tmp 23) (.const (.int .i64 16)), .some 24)), (none, (.pick (.tmp 21) (.const (.bool .true)) (.tmp 24), .some 25)), (none, (.mov (.tmp 25), .some 26)), (.some (26, .false), (.fadr 0 (.tmp 4), .some 27)), (.some (26, .false), (.load none (.tmp 27), .some 28)), (.some (26, .false), (.fadr 1 (.tmp 4), .some 29)), (.some (26, .false), (.load none (.tmp 29), .some 30)), (.some (26, .false), (.cvt .u64 (.tmp 30), .some 31)), (.some (26, .false), (.bin .sub (.const (.int .u64 4611686018427387904)) (.tmp 31), .some 32)), (.some (26, .false), (.bin .gtr (.tmp 28) (.tmp 32), .some 33)), (none, (.pick (.tmp 26) (.const (.bool .true)) (.tmp 33), .some 34)), (none, (.mov (.tmp 34), .some 35)), (.some (35, .false), (.fadr 2 (.tmp 4), .some 36)), (.some (35, .false), (.load none (.tmp 36), .some 37)), (.some (35, .false), (.bin .lss (.tmp 37) (.const (.int .i64 1)), .some 38)), (none, (.pick (.tmp 35) (.const (.bool .true)) (.tmp 38), .some 39)), (none, (.mov (.tmp 39), .some 40)), (.some (40, .false), (.fadr 2 (.tmp 4), .some 41)), (.some (40, .false), (.load none (.tmp 41), .some 42)), (.some (40, .false), (.bin .gtr (.tmp 42) (.const (.int .i64 1099511627775)), .some 43)), (none, (.pick (.tmp 40) (.const (.bool .true)) (.tmp 43), .some 44))] []) (.cond (.tmp 44) (.seq
  (.reg [(none, (.mov (.const (.bool .false)), .some 2))] []) .ret) .skip)) (.seq
  (.reg [(none, (.mov (.tmp 3), .some 45)), (none, (.bin .gtr (.tmp 45) (.const (.int .i64 0)), .some 46)), (none, (.mov (.tmp 46), .some 47)), (.some (47, .true), (.fadr 0 (.tmp 4), .some 48)), (.some (47, .true), (.load none (.tmp 48), .some 49)), (.some (47, .true), (.mov (.tmp 0), .some 50)), (.some (47, .true), (.mov (.tmp 3), .some 51)), (.some (47, .true), (.bin .sub (.tmp 51) (.const (.int .i64 1)), .some 52)), (.some (47, .true), (.iadr 3 (.tmp 50) (.tmp 52), .some 53)), (.some (47, .true), (.fadr 0 (.tmp 53), .some 54)), (.some (47, .true), (.load none (.tmp 54), .some 55)), (.some (47, .true), (.mov (.tmp 0), .some 56)), (.some (47, .true), (.mov (.tmp 3), .some 57)), (.some (47, .true), (.bin .sub (.tmp 57) (.const (.int .i64 1)), .some 58)), (.some (47, .true), (.iadr 3 (.tmp 56) (.tmp 58), .some 59)), (.some (47, .true), (.fadr 1 (.tmp 59), .some 60)), (.some (47, .true), (.load none (.tmp 60), .some 61)), (.some (47, .true), (.cvt .u64 (.tmp 61), .some 62)), (.some (47, .true), (.bin .add (.tmp 55) (.tmp 62), .some 63)), (.some (47, .true), (.bin .lss (.tmp 49) (.tmp 63), .some 64)), (.some (47, .true), (.mov (.tmp 64), .some 65)), (.some (65, .false), (.fadr 2 (.tmp 4), .some 66)), (.some (65, .false), (.load none (.tmp 66), .some 67)), (.some (65, .false), (.mov (.tmp 0), .some 68)), (.some (65, .false), (.mov (.tmp 3), .some 69)), (.some (65, .false), (.bin .sub (.tmp 69) (.const (.int .i64 1)), .some 70)), (.some (65, .false), (.iadr 3 (.tmp 68) (.tmp 70), .some 71)), (.some (65, .false), (.fadr 2 (.tmp 71), .some 72)), (.some (65, .false), (.load none (.tmp 72), .some 73)), (.some (65, .false), (.bin .leq (.tmp 67) (.tmp 73), .some 74)), (.some (47, .true), (.pick (.tmp 65) (.const (.bool .true)) (.tmp 74), .some 75)), (none, (.pick (.tmp 47) (.tmp 75) (.const (.bool .false)), .some 76))] [(4, 10), (4, 16), (10, 16), (22, 28)]) (.cond (.tmp 76) (.seq
  (.reg [(none, (.mov (.const (.bool .false)), .some 2))] []) .ret) .skip)))))
  (.reg [(none, (.mov (.tmp 3), .some 12)), (none, (.bin .add (.tmp 12) (.const (.int .i64 1)), .some 13)), (none, (.mov (.tmp 13), .some 3))] [])))))) (.seq
  (.reg [(none, (.mov (.const (.bool .true)), .some 2))] []) .ret)))
theorem b69 : Try.f69.body.bind (compC Try.prog) = some c69 := by kernel_rfl
theorem r69 : compR Try.prog Try.f69 = .some [.tmp 2] := by kernel_rfl
theorem n69 : (Try.f69.name == "runtime.NumGoroutine") = false := by kernel_rfl
def c78 : C := .seq
  (.reg [(none, (.new [.int .i64 0, .int .i64 0], .some 2))] []) (.seq (.seq
  (.reg [(none, (.mov (.tmp 0), .some 3)), (none, (.eqp .false (.tmp 3) (.const (.pointer none)), .some 4))] []) (.cond (.tmp 4) (.seq
  (.reg [(none, (.call (.func 130) [.const (.int .i64 19), .const (.int .i64 0)], .some 5)), (none, (.store 2 (.tmp 2) (.tmp 5), none))] []) .ret) .skip)) (.seq
  (.reg [(none, (.mov (.tmp 0), .some 6)), (none, (.nilc (.tmp 6), .some 7)), (none, (.fadr 2 (.tmp 7), .some 8)), (none, (.load (.some 2) (.tmp 8), .some 9)), (none, (.store 2 (.tmp 2) (.tmp 9), none))] []) .ret))
theorem b78 : Try.f78.body.bind (compC Try.prog) = some c78 := by kernel_rfl
theorem r78 : compR Try.prog Try.f78 = .some [.cell 2 (.some 2)] := by kernel_rfl
theorem n78 : (Try.f78.name == "runtime.NumGoroutine") = false := by kernel_rfl
def c84 : C := .seq
  (.reg [(none, (.box (.tmp 0), .some 2)), (none, (.new [.slice none 0 0, .int .i64 0, .int .i64 0, .int .i64 0], .some 4)), (none, (.mov (.const (.int .i64 0)), .some 5))] []) (.seq (.seq
  (.reg [(none, (.mov (.tmp 1), .some 10)), (none, (.bin .geq (.tmp 10) (.const (.int .i64 0)), .some 11))] []) (.cond (.tmp 11) (.seq
  (.reg [(none, (.load (.some 4) (.tmp 2), .some 13)), (none, (.mov (.tmp 1), .some 14)), (none, (.cvt .u64 (.tmp 14), .some 15)), (none, (.call (.func 83) [.tmp 13, .tmp 15], .some 16)), (none, (.mov (.tmp 16), .some 12)), (none, (.ext (.tmp 12) 0, .some 17)), (none, (.ext (.tmp 12) 1, .some 18)), (none, (.new [.slice none 0 0, .int .i64 0, .int .i64 0, .int .i64 0], .some 6)), (none, (.store 4 (.tmp 6) (.tmp 17), none)), (none, (.mov (.tmp 18), .some 7))] []) (.seq
  (.reg [(none, (.load (.some 4) (.tmp 6), .some 19)), (none, (.mov (.tmp 7), .some 20)), (none, (.cvt .i64 (.tmp 20), .some 21)), (none, (.store 4 (.tmp 4) (.tmp 19), none)), (none, (.mov (.tmp 21), .some 5))] []) .ret)) .skip)) (.seq
  (.reg [(none, (.load (.some 4) (.tmp 2), .some 23)), (none, (.call (.func 82) [.tmp 23], .some 24)), (none, (.mov (.tmp 24), .some 22)), (none, (.ext (.tmp 22) 0, .some 25)), (none, (.ext (.tmp 22) 1, .some 26)), (none, (.new [.slice none 0 0, .int .i64 0, .int .i64 0, .int .i64 0], .some 8)), (none, (.store 4 (.tmp 8) (.tmp 25), none)), (none, (.mov (.tmp 26), .some 9))] []) (.seq
  (.reg [(none, (.load (.some 4) (.tmp 8), .some 27)), (none, (.fadr 1 (.tmp 2), .some 28)), (none, (.load none (.tmp 28), .some 29)), (none, (.call (.func 129) [.tmp 27, .const (.int .i64 2), .tmp 29], .some 30)), (none, (.store 4 (.tmp 4) (.tmp 30), none)), (none, (.mov (.const (.int .i64 0)), .some 5))] []) .ret)))
theorem b84 : Try.f84.body.bind (compC Try.prog) = some c84 := by kernel_rfl
theorem r84 : compR Try.prog Try.f84 = .some [.cell 4 (.some 4), .tmp 5] := by kernel_rfl
theorem n84 : (Try.f84.name == "runtime.NumGoroutine") = false := by kernel_rfl
def c87 : C := .seq
  (.reg [(none, (.mov (.const (.int .i64 0)), .some 4))] []) (.seq (.seq
  (.reg [(none, (.mov (.tmp 1), .some 6)), (none, (.bin .geq (.tmp 6) (.const (.int .i64 0)), .some 7))] []) (.cond (.tmp 7) (.seq
  (.reg [(none, (.mov (.tmp 0), .some 8)), (none, (.mov (.tmp 1), .some 9)), (none, (.cvt .u64 (.tmp 9), .some 10)), (none, (.call (.func 86) [.tmp 8, .tmp 10], .some 11)), (none, (.cvt .i64 (.tmp 11), .some 12)), (none, (.mov (.tmp 12), .some 4))] []) .ret) .skip)) (.seq
  (.reg [(none, (.mov (.tmp 0), .some 13)), (none, (.call (.func 79) [.tmp 13], .some 14)), (none, (.mov (.tmp 14), .some 5))] []) (.seq
  (.reg [(none, (.mov (.tmp 0), .some 15)), (none, (.call (.func 85) [.tmp 15], .some 16))] []) (.seq
  (.reg [(none, (.mov (.tmp 0), .some 17)), (none, (.mov (.tmp 5), .some 18)), (none, (.call (.func 132) [.tmp 17, .const (.int .i64 2), .tmp 18], .some 19))] []) (.seq
  (.reg [(none, (.mov (.const (.int .i64 0)), .some 4))] []) .ret)))))
theorem b87 : Try.f87.body.bind (compC Try.prog) = some c87 := by kernel_rfl
theorem r87 : compR Try.prog Try.f87 = .some [.tmp 4] := by kernel_rfl
theorem n87 : (Try.f87.name == "runtime.NumGoroutine") = false := by kernel_rfl
def c91 : C := .reg [(none, (.mov (.tmp 0), .some 4)), (none, (.mov (.tmp 1), .some 5)), (none, (.call (.func 65) [.tmp 5], .some 6)), (none, (.call (.func 90) [.tmp 4, .tmp 6], .some 7))] []
theorem b91 : Try.f91.body.bind (compC Try.prog) = some c91 := by kernel_rfl
theorem r91 : compR Try.prog Try.f91 = .some [] := by kernel_rfl
theorem n91 : (Try.f91.name == "runtime.NumGoroutine") = false := by kernel_rfl
def c92 : C := .seq
  (.reg [(none, (.mov (.const (.int .u64 0)), .some 2))] []) (.seq
  (.reg [(none, (.mov (.tmp 0), .some 3)), (none, (.cvt .u64 (.tmp 3), .some 4)), (none, (.bin .shl (.tmp 4) (.const (.int .u64 1)), .some 5)), (none, (.mov (.tmp 0), .some 6)), (none, (.bin .shr (.tmp 6) (.const (.int .u64 63)), .some 7)), (none, (.cvt .u64 (.tmp 7), .some 8)), (none, (.bin .xor (.tmp 5) (.tmp 8), .some 9)), (none, (.mov (.tmp 9), .some 2))] []) .ret)
theorem b92 : Try.f92.body.bind (compC Try.prog) = some c92 := by kernel_rfl
theorem r92 : compR Try.prog Try.f92 = .some [.tmp 2] := by kernel_rfl
theorem n92 : (Try.f92.name == "runtime.NumGoroutine") = false := by kernel_rfl
def c103 : C := .seq
  (.reg [(none, (.mov (.const (.slice none 0 0)), .some 6))] []) (.seq
  (.reg [(none, (.mov (.const (.slice none 0 0)), .some 7))] []) (.seq (.seq
  (.reg [(none, (.mov (.tmp 0), .some 10)), (none, (.mov (.tmp 2), .some 11)), (none, (.call (.func 87) [.tmp 10, .tmp 11], .some 12)), (none, (.mov (.const (.int .i64 0)), .some 13))] []) (.block 0 (.loop (.seq
  (.reg [(none, (.bin .lss (.tmp 13) (.tmp 12), .some 14))] []) (.seq (.cond (.tmp 14) .skip (.exit 0)) (.seq (.block 1 (.seq
  (.reg [(none, (.mov (.tmp 0), .some 15)), (none, (.call (.func 79) [.tmp 15], .some 16)), (none, (.mov (.tmp 16), .some 8))] []) (.seq
  (.reg [(none, (.mov (.tmp 0), .some 17)), (none, (.call (.func 85) [.tmp 17], .some 18)), (none, (.mov (.tmp 18), .some 9))] []) (.seq (.seq
  (.reg [(none, (.mov (.tmp 9), .some 19)), (none, (.mov (.tmp 1), .some 20)), (none, (.bin .geq (.tmp 19) (.tmp 20), .some 21))] []) (.cond (.tmp 21)
  (.reg [(none, (.mov (.tmp 0), .some 22)), (none, (.mov (.tmp 8), .some 23)), (none, (.call (.func 132) [.tmp 22, .const (.int .i64 13), .tmp 23], .some 24))] []) .skip)) (.seq (.seq
  (.reg [(none, (.mov (.tmp 0), .some 25)), (none, (.call (.func 102) [.tmp 25], .some 26)), (none, (.un .not (.tmp 26), .some 27))] []) (.cond (.tmp 27) (.seq
  (.reg [(none, (.mov (.const (.slice none 0 0)), .some 6))] []) .ret) .skip)) (.seq
  (.reg [(none, (.mov (.tmp 1), .some 28)), (none, (.mov (.tmp 9), .some 29)), (none, (.bin .add (.tmp 29) (.const (.int .u64 1)), .some 30)), (none, (.bin .sub (.tmp 28) (.tmp 30), .some 31)), (none, (.mov (.tmp 31), .some 1))] [])
  (.reg [(none, (.mov (.tmp 7), .some 32)), (none, (.mov (.tmp 1), .some 33)), (none, (.bsl 1 [.tmp 33], .some 34)), (none, (.app 1 8 (.tmp 32) (.tmp 34), .some 35)), (none, (.mov (.tmp 35), .some 7))] [])))))))
  (.reg [(none, (.bin .add (.tmp 13) (.const (.int .i64 1)), .some 36)), (none, (.mov (.tmp 36), .some 13))] []))))))) (.seq
  (.reg [(none, (.mov (.tmp 7), .some 37)), (none, (.mov (.tmp 37), .some 6))] []) .ret)))
theorem b103 : Try.f103.body.bind (compC Try.prog) = some c103 := by kernel_rfl
theorem r103 : compR Try.prog Try.f103 = .some [.tmp 6] := by kernel_rfl
theorem n103 : (Try.f103.name == "runtime.NumGoroutine") = false := by kernel_rfl
def c106 : C := .seq
  (.reg [(none, (.box (.tmp 0), .some 2)), (none, (.new [.slice none 0 0, .int .i64 0, .int .i64 0, .int .i64 0], .some 4)), (none, (.mov (.const (.slice none 0 0)), .some 5))] []) (.seq
  (.reg [(none, (.load (.some 4) (.tmp 2), .some 9)), (none, (.mov (.tmp 1), .some 10)), (none, (.call (.func 84) [.tmp 9, .tmp 10], .some 11)), (none, (.mov (.tmp 11), .some 8)), (none, (.ext (.tmp 8) 0, .some 12)), (none, (.ext (.tmp 8) 1, .some 13)), (none, (.new [.slice none 0 0, .int .i64 0, .int .i64 0, .int .i64 0], .some 6)), (none, (.store 4 (.tmp 6) (.tmp 12), none)), (none, (.mov (.tmp 13), .some 7))] []) (.seq
  (.reg [(none, (.load (.some 4) (.tmp 6), .some 14)), (none, (.mov (.tmp 7), .some 15)), (none, (.call (.func 139) [.tmp 14, .tmp 15], .some 16)), (none, (.ext (.tmp 16) 0, .some 17)), (none, (.ext (.tmp 16) 1, .some 18)), (none, (.store 4 (.tmp 4) (.tmp 17), none)), (none, (.mov (.tmp 18), .some 5))] []) .ret))
theorem b106 : Try.f106.body.bind (compC Try.prog) = some c106 := by kernel_rfl
theorem r106 : compR Try.prog Try.f106 = .some [.cell 4 (.some 4), .tmp 5] := by kernel_rfl
theorem n106 : (Try.f106.name == "runtime.NumGoroutine") = false := by kernel_rfl
def c107 : C := .seq
  (.reg [(none, (.box (.tmp 0), .some 2)), (none, (.new [.slice none 0 0, .int .i64 0, .int .i64 0, .int .i64 0], .some 4)), (none, (.mov (.const (.slice none 0 0)), .some 5))] []) (.seq
  (.reg [(none, (.load (.some 4) (.tmp 2), .some 13)), (none, (.mov (.tmp 1), .some 14)), (none, (.call (.func 84) [.tmp 13, .tmp 14], .some 15)), (none, (.mov (.tmp 15), .some 12)), (none, (.ext (.tmp 12) 0, .some 16)), (none, (.ext (.tmp 12) 1, .some 17)), (none, (.new [.slice none 0 0, .int .i64 0, .int .i64 0, .int .i64 0], .some 6)), (none, (.store 4 (.tmp 6) (.tmp 16), none)), (none, (.mov (.tmp 17), .some 7))] []) (.seq
  (.reg [(none, (.mov (.const (.slice none 0 0)), .some 8))] []) (.seq (.seq
  (.reg [(none, (.mov (.const (.int .i64 0)), .some 9))] []) (.block 0 (.loop (.seq (.seq
  (.reg [(none, (.mov (.tmp 9), .some 18)), (none, (.mov (.tmp 7), .some 19)), (none, (.bin .lss (.tmp 18) (.tmp 19), .some 20)), (none, (.mov (.tmp 20), .some 21)), (.some (21, .true), (.fadr 2 (.tmp 6), .some 22)), (.some (21, .true), (.fadr 0 (.tmp 22), .some 23)), (.some (21, .true), (.load none (.tmp 23), .some 24)), (.some (21, .true), (.bin .eql (.tmp 24) (.const (.int .i64 0)), .some 25)), (none, (.pick (.tmp 21) (.tmp 25) (.const (.bool .false)), .some 26))] []) (.cond (.tmp 26) .skip (.exit 0))) (.seq (.block 1 (.seq
  (.reg [(none, (.load (.some 4) (.tmp 6), .some 30)), (none, (.call (.func 82) [.tmp 30], .some 31)), (none, (.mov (.tmp 31), .some 29)), (none, (.ext (.tmp 29) 0, .some 32)), (none, (.ext (.tmp 29) 1, .some 33)), (none, (.new [.slice none 0 0, .int .i64 0, .int .i64 0, .int .i64 0], .some 10)), (none, (.store 4 (.tmp 10) (.tmp 32), none)), (none, (.mov (.tmp 33), .some 11))] []) (.seq
  (.reg [(none, (.load (.some 4) (.tmp 10), .some 34)), (none, (.store 4 (.tmp 6) (.tmp 34), none))] [])
  (.reg [(none, (.mov (.tmp 8), .some 35)), (none, (.mov (.tmp 11), .some 36)), (none, (.bsl 1 [.tmp 36], .some 37)), (none, (.app 1 8 (.tmp 35) (.tmp 37), .some 38)), (none, (.mov (.tmp 38), .some 8))] []))))
  (.reg [(none, (.mov (.tmp 9), .some 27)), (none, (.bin .add (.tmp 27) (.const (.int .i64 1)), .some 28)), (none, (.mov (.tmp 28), .some 9))] [])))))) (.seq (.seq
  (.reg [(none, (.fadr 2 (.tmp 6), .some 39)), (none, (.fadr 0 (.tmp 39), .some 40)), (none, (.load none (.tmp 40), .some 41)), (none, (.bin .neq (.tmp 41) (.const (.int .i64 0)), .some 42))] []) (.cond (.tmp 42) (.seq
  (.reg [(none, (.load (.some 4) (.tmp 6), .some 43)), (none, (.store 4 (.tmp 4) (.tmp 43), none)), (none, (.mov (.const (.slice none 0 0)), .some 5))] []) .ret) .skip)) (.seq
  (.reg [(none, (.load (.some 4) (.tmp 6), .some 44)), (none, (.mov (.tmp 8), .some 45)), (none, (.store 4 (.tmp 4) (.tmp 44), none)), (none, (.mov (.tmp 45), .some 5))] []) .ret)))))
theorem b107 : Try.f107.body.bind (compC Try.prog) = some c107 := by kernel_rfl
theorem r107 : compR Try.prog Try.f107 = .some [.cell 4 (.some 4), .tmp 5] := by kernel_rfl
theorem n107 : (Try.f107.name == "runtime.NumGoroutine") = false := by kernel_rfl
def c108 : C := .seq
  (.reg [(none, (.box (.tmp 0), .some 2)), (none, (.new [.slice none 0 0, .int .i64 0, .int .i64 0, .int .i64 0], .some 4)), (none, (.mov (.const (.int .u64 0)), .some 5))] []) (.seq
  (.reg [(none, (.load (.some 4) (.tmp 2), .some 11)), (none, (.mov (.tmp 1), .some 12)), (none, (.mx .true (.tmp 12) (.const (.int .i64 0)), .some 13)), (none, (.mx .false (.tmp 13) (.const (.int .i64 8)), .some 14)), (none, (.call (.func 139) [.tmp 11, .tmp 14], .some 15)), (none, (.mov (.tmp 15), .some 10)), (none, (.ext (.tmp 10) 0, .some 16)), (none, (.ext (.tmp 10) 1, .some 17)), (none, (.new [.slice none 0 0, .int .i64 0, .int .i64 0, .int .i64 0], .some 6)), (none, (.store 4 (.tmp 6) (.tmp 16), none)), (none, (.mov (.tmp 17), .some 7))] []) (.seq
  (.reg [(none, (.mov (.const (.int .u64 0)), .some 8))] []) (.seq (.seq
  (.reg [(none, (.mov (.tmp 7), .some 18)), (none, (.len .false (.tmp 18), .some 19)), (none, (.bin .sub (.tmp 19) (.const (.int .i64 1)), .some 20)), (none, (.mov (.tmp 20), .some 9))] []) (.block 0 (.loop (.seq (.seq
  (.reg [(none, (.mov (.tmp 9), .some 21)), (none, (.bin .geq (.tmp 21) (.const (.int .i64 0)), .some 22))] []) (.cond (.tmp 22) .skip (.exit 0))) (.seq (.block 1
  (.reg [(none, (.mov (.tmp 8), .some 25)), (none, (.bin .mul (.const (.int .u64 256)) (.tmp 25), .some 26)), (none, (.mov (.tmp 7), .some 27)), (none, (.mov (.tmp 9), .some 28)), (none, (.iadr 1 (.tmp 27) (.tmp 28), .some 29)), (none, (.load none (.tmp 29), .some 30)), (none, (.cvt .u64 (.tmp 30), .some 31)), (none, (.bin .add (.tmp 26) (.tmp 31), .some 32)), (none, (.mov (.tmp 32), .some 8))] []))
  (.reg [(none, (.mov (.tmp 9), .some 23)), (none, (.bin .sub (.tmp 23) (.const (.int .i64 1)), .some 24)), (none, (.mov (.tmp 24), .some 9))] [])))))) (.seq
  (.reg [(none, (.load (.some 4) (.tmp 6), .some 33)), (none, (.mov (.tmp 8), .some 34)), (none, (.store 4 (.tmp 4) (.tmp 33), none)), (none, (.mov (.tmp 34), .some 5))] []) .ret))))
theorem b108 : Try.f108.body.bind (compC Try.prog) = some c108 := by kernel_rfl
theorem r108 : compR Try.prog Try.f108 = .some [.cell 4 (.some 4), .tmp 5] := by kernel_rfl
theorem n108 : (Try.f108.name == "runtime.NumGoroutine") = false := by kernel_rfl
def c111 : C := .seq
  (.reg [(none, (.mov (.const (.int .i64 0)), .some 2))] []) (.seq (.seq
  (.reg [(none, (.mov (.tmp 0), .some 3)), (none, (.eqp .false (.tmp 3) (.const (.pointer none)), .some 4))] []) (.cond (.tmp 4) (.seq
  (.reg [(none, (.mov (.const (.int .i64 0)), .some 2))] []) .ret) .skip)) (.seq
  (.reg [(none, (.mov (.tmp 0), .some 5)), (none, (.nilc (.tmp 5), .some 6)), (none, (.fadr 0 (.tmp 6), .some 7)), (none, (.load none (.tmp 7), .some 8)), (none, (.len .false (.tmp 8), .some 9)), (none, (.mov (.tmp 0), .some 10)), (none, (.nilc (.tmp 10), .some 11)), (none, (.fadr 1 (.tmp 11), .some 12)), (none, (.load none (.tmp 12), .some 13)), (none, (.bin .sub (.tmp 9) (.tmp 13), .some 14)), (none, (.mov (.tmp 14), .some 2))] [(3, 8)]) .ret))
theorem b111 : Try.f111.body.bind (compC Try.prog) = some c111 := by kernel_rfl
theorem r111 : compR Try.prog Try.f111 = .some [.tmp 2] := by kernel_rfl
theorem n111 : (Try.f111.name == "runtime.NumGoroutine") = false := by kernel_rfl
def c112 : C := .seq
  (.reg [(none, (.mov (.tmp 1), .some 11)), (none, (.mov (.tmp 2), .some 12)), (none, (.call (.func 52) [.tmp 11, .tmp 12], .some 13)), (none, (.mov (.tmp 13), .some 10)), (none, (.ext (.tmp 10) 0, .some 14)), (none, (.ext (.tmp 10) 1, .some 15)), (none, (.mov (.tmp 14), .some 6)), (none, (.mov (.tmp 15), .some 7))] []) (.seq (.seq
  (.reg [(none, (.mov (.tmp 7), .some 16)), (none, (.un .not (.tmp 16), .some 17))] []) (.cond (.tmp 17) (.seq
  (.reg [(none, (.mov (.tmp 0), .some 18)), (none, (.call (.func 124) [.tmp 18, .const (.int .i64 3)], .some 19))] []) .ret) .skip)) (.seq
  (.reg [(none, (.mov (.tmp 0), .some 20)), (none, (.mov (.tmp 2), .some 21)), (none, (.len .false (.tmp 21), .some 22)), (none, (.cvt .u64 (.tmp 22), .some 23)), (none, (.call (.func 91) [.tmp 20, .tmp 23], .some 24))] []) (.seq
  (.reg [(none, (.mov (.tmp 6), .some 25)), (none, (.len .false (.tmp 25), .some 26)), (none, (.mov (.const (.int .i64 0)), .some 27))] []) (.block 0 (.loop (.seq
  (.reg [(none, (.bin .lss (.tmp 27) (.tmp 26), .some 28))] []) (.seq (.cond (.tmp 28) .skip (.exit 0)) (.seq (.block 1 (.seq
  (.reg [(none, (.iadr 1 (.tmp 25) (.tmp 27), .some 29)), (none, (.load none (.tmp 29), .some 30)), (none, (.mov (.tmp 30), .some 9))] [])
  (.reg [(none, (.mov (.tmp 0), .some 31)), (none, (.mov (.tmp 9), .some 32)), (none, (.call (.func 91) [.tmp 31, .tmp 32], .some 33))] [])))
  (.reg [(none, (.bin .add (.tmp 27) (.const (.int .i64 1)), .some 34)), (none, (.mov (.tmp 34), .some 27))] [])))))))))
theorem b112 : Try.f112.body.bind (compC Try.prog) = some c112 := by kernel_rfl
theorem r112 : compR Try.prog Try.f112 = .some [] := by kernel_rfl
theorem n112 : (Try.f112.name == "runtime.NumGoroutine") = false := by kernel_rfl
def c114 : C := .seq
  (.reg [(none, (.mov (.const (.slice none 0 0)), .some 2))] []) (.seq
  (.reg [(none, (.mov (.const (.slice none 0 0)), .some 3))] []) (.seq
  (.reg [(none, (.mov (.const (.int .u64 0)), .some 4))] []) (.seq
  (.reg [(none, (.mov (.const (.int .i64 0)), .some 5))] []) (.seq (.seq
  (.reg [(none, (.mov (.tmp 0), .some 10)), (none, (.call (.func 87) [.tmp 10, .const (.int .i64 16)], .some 11)), (none, (.mov (.const (.int .i64 0)), .some 12))] []) (.block 0 (.loop (.seq
  (.reg [(none, (.bin .lss (.tmp 12) (.tmp 11), .some 13))] []) (.seq (.cond (.tmp 13) .skip (.exit 0)) (.seq (.block 1 (.seq
  (.reg [(none, (.mov (.tmp 0), .some 14)), (none, (.call (.func 79) [.tmp 14], .some 15)), (none, (.mov (.tmp 15), .some 6))] []) (.seq
  (.reg [(none, (.mov (.tmp 0), .some 16)), (none, (.call (.func 85) [.tmp 16], .some 17)), (none, (.mov (.tmp 17), .some 7))] []) (.seq
  (.reg [(none, (.mov (.tmp 0), .some 18)), (none, (.call (.func 87) [.tmp 18, .const (.int .i64 16)], .some 19)), (none, (.mov (.tmp 19), .some 8))] []) (.seq
  (.reg [(none, (.mov (.tmp 4), .some 20)), (none, (.mov (.tmp 7), .some 21)), (none, (.bin .add (.tmp 20) (.tmp 21), .some 22)), (none, (.mov (.tmp 8), .some 23)), (none, (.mov (.tmp 5), .some 24)), (none, (.bin .add (.tmp 24) (.const (.int .i64 1)), .some 25)), (none, (.mov (.tmp 0), .some 26)), (none, (.call (.func 87) [.tmp 26, .const (.int .i64 1099511627775)], .some 27)), (none, (.bin .add (.tmp 25) (.tmp 27), .some 28)), (none, (.build [.int .u64 0, .int .i64 0, .int .i64 0] [(0, (1, .tmp 22)), (1, (1, .tmp 23)), (2, (1, .tmp 28))], .some 29)), (none, (.new [.int .u64 0, .int .i64 0, .int .i64 0], .some 9)), (none, (.store 3 (.tmp 9) (.tmp 29), none))] []) (.seq (.seq
  (.reg [(none, (.mov (.tmp 7), .some 30)), (none, (.bin .geq (.tmp 30) (.const (.int .u64 4611686018427387904)), .some 31)), (none, (.mov (.tmp 31), .some 32)), (.some (32, .false), (.load (.some 3) (.tmp 9), .some 33)), (.some (32, .false), (.mov (.tmp 4), .some 34)), (.some (32, .false), (.mov (.tmp 5), .some 35)), (.some (32, .false), (.call (.func 141) [.tmp 33, .tmp 34, .tmp 35], .some 36)), (.some (32, .false), (.un .not (.tmp 36), .some 37)), (none, (.pick (.tmp 32) (.const (.bool .true)) (.tmp 37), .some 38))] []) (.cond (.tmp 38)
  (.reg [(none, (.mov (.tmp 0), .some 39)), (none, (.mov (.tmp 6), .some 40)), (none, (.call (.func 132) [.tmp 39, .const (.int .i64 3), .tmp 40], .some 41))] []) .skip)) (.seq (.seq
  (.reg [(none, (.mov (.tmp 0), .some 42)), (none, (.call (.func 102) [.tmp 42], .some 43)), (none, (.un .not (.tmp 43), .some 44))] []) (.cond (.tmp 44) (.seq
  (.reg [(none, (.mov (.const (.slice none 0 0)), .some 2))] []) .ret) .skip)) (.seq
  (.reg [(none, (.mov (.tmp 3), .some 45)), (none, (.load (.some 3) (.tmp 9), .some 46)), (none, (.bsl 3 [.tmp 46], .some 47)), (none, (.app 3 24 (.tmp 45) (.tmp 47), .some 48)), (none, (.mov (.tmp 48), .some 3))] [])
  (.reg [(none, (.load (.some 3) (.tmp 9), .some 49)), (none, (.call (.func 126) [.tmp 49], .some 50)), (none, (.fadr 2 (.tmp 9), .some 51)), (none, (.load none (.tmp 51), .some 52)), (none, (.mov (.tmp 50), .some 4)), (none, (.mov (.tmp 52), .some 5))] [(0, 3), (1, 3)])))))))))
  (.reg [(none, (.bin .add (.tmp 12) (.const (.int .i64 1)), .some 53)), (none, (.mov (.tmp 53), .some 12))] []))))))) (.seq
  (.reg [(none, (.mov (.tmp 3), .some 54)), (none, (.mov (.tmp 54), .some 2))] []) .ret)))))
theorem b114 : Try.f114.body.bind (compC Try.prog) = some c114 := by kernel_rfl
theorem r114 : compR Try.prog Try.f114 = .some [.tmp 2] := by kernel_rfl
theorem n114 : (Try.f114.name == "runtime.NumGoroutine") = false := by kernel_rfl
def c116 : C := .seq
  (.reg [(none, (.mov (.const (.bool .false)), .some 4))] []) (.seq (.seq
  (.reg [(none, (.mov (.tmp 0), .some 6)), (none, (.len .false (.tmp 6), .some 7)), (none, (.mov (.tmp 1), .some 8)), (none, (.len .false (.tmp 8), .some 9)), (none, (.bin .neq (.tmp 7) (.tmp 9), .some 10))] []) (.cond (.tmp 10) (.seq
  (.reg [(none, (.mov (.const (.bool .false)), .some 4))] []) .ret) .skip)) (.seq (.seq
  (.reg [(none, (.mov (.const (.int .i64 0)), .some 5))] []) (.block 0 (.loop (.seq (.seq
  (.reg [(none, (.mov (.tmp 5), .some 11)), (none, (.mov (.tmp 0), .some 12)), (none, (.len .false (.tmp 12), .some 13)), (none, (.bin .lss (.tmp 11) (.tmp 13), .some 14))] []) (.cond (.tmp 14) .skip (.exit 0))) (.seq (.block 1 (.seq
  (.reg [(none, (.mov (.tmp 0), .some 17)), (none, (.mov (.tmp 5), .some 18)), (none, (.iadr 3 (.tmp 17) (.tmp 18), .some 19)), (none, (.load (.some 3) (.tmp 19), .some 20)), (none, (.mov (.tmp 1), .some 21)), (none, (.mov (.tmp 5), .some 22)), (none, (.iadr 3 (.tmp 21) (.tmp 22), .some 23)), (none, (.load (.some 3) (.tmp 23), .some 24)), (none, (.eqa .true 3 (.tmp 20) (.tmp 24), .some 25))] [(3, 7)]) (.cond (.tmp 25) (.seq
  (.reg [(none, (.mov (.const (.bool .false)), .some 4))] []) .ret) .skip)))
  (.reg [(none, (.mov (.tmp 5), .some 15)), (none, (.bin .add (.tmp 15) (.const (.int .i64 1)), .some 16)), (none, (.mov (.tmp 16), .some 5))] [])))))) (.seq
  (.reg [(none, (.mov (.const (.bool .true)), .some 4))] []) .ret)))
theorem b116 : Try.f116.body.bind (compC Try.prog) = some c116 := by kernel_rfl
theorem r116 : compR Try.prog Try.f116 = .some [.tmp 4] := by kernel_rfl
theorem n116 : (Try.f116.name == "runtime.NumGoroutine") = false := by kernel_rfl
def c117 : C := .seq
  (.reg [(none, (.mov (.const (.slice none 0 0)), .some 2))] []) (.seq
  (.reg [(none, (.mov (.tmp 0), .some 7)), (none, (.len .false (.tmp 7), .some 8)), (none, (.cvt .u8 (.tmp 8), .some 9)), (none, (.bsl 1 [.tmp 9], .some 10)), (none, (.mov (.tmp 10), .some 3))] []) (.seq (.seq
  (.reg [(none, (.mov (.const (.int .i64 0)), .some 4))] []) (.block 0 (.loop (.seq (.seq
  (.reg [(none, (.mov (.tmp 4), .some 11)), (none, (.mov (.tmp 0), .some 12)), (none, (.len .false (.tmp 12), .some 13)), (none, (.bin .lss (.tmp 11) (.tmp 13), .some 14))] []) (.cond (.tmp 14) .skip (.exit 0))) (.seq (.block 1 (.seq
  (.reg [(none, (.mov (.tmp 0), .some 17)), (none, (.mov (.tmp 4), .some 18)), (none, (.iadr 3 (.tmp 17) (.tmp 18), .some 19)), (none, (.fadr 0 (.tmp 19), .some 20)), (none, (.load none (.tmp 20), .some 21)), (none, (.mov (.tmp 0), .some 22)), (none, (.mov (.tmp 4), .some 23)), (none, (.iadr 3 (.tmp 22) (.tmp 23), .some 24)), (none, (.fadr 2 (.tmp 24), .some 25)), (none, (.load none (.tmp 25), .some 26)), (none, (.mov (.tmp 21), .some 5)), (none, (.mov (.tmp 26), .some 6))] [(4, 9)]) (.seq (.seq
  (.reg [(none, (.mov (.tmp 4), .some 27)), (none, (.bin .gtr (.tmp 27) (.const (.int .i64 0)), .some 28))] []) (.cond (.tmp 28) (.seq
  (.reg [(none, (.mov (.tmp 5), .some 29)), (none, (.mov (.tmp 0), .some 30)), (none, (.mov (.tmp 4), .some 31)), (none, (.bin .sub (.tmp 31) (.const (.int .i64 1)), .some 32)), (none, (.iadr 3 (.tmp 30) (.tmp 32), .some 33)), (none, (.fadr 0 (.tmp 33), .some 34)), (none, (.load none (.tmp 34), .some 35)), (none, (.bin .sub (.tmp 29) (.tmp 35), .some 36)), (none, (.mov (.tmp 0), .some 37)), (none, (.mov (.tmp 4), .some 38)), (none, (.bin .sub (.tmp 38) (.const (.int .i64 1)), .some 39)), (none, (.iadr 3 (.tmp 37) (.tmp 39), .some 40)), (none, (.fadr 1 (.tmp 40), .some 41)), (none, (.load none (.tmp 41), .some 42)), (none, (.cvt .u64 (.tmp 42), .some 43)), (none, (.bin .sub (.tmp 36) (.tmp 43), .some 44)), (none, (.mov (.tmp 44), .some 5))] [(6, 13)])
  (.reg [(none, (.mov (.tmp 6), .some 45)), (none, (.mov (.tmp 0), .some 46)), (none, (.mov (.tmp 4), .some 47)), (none, (.bin .sub (.tmp 47) (.const (.int .i64 1)), .some 48)), (none, (.iadr 3 (.tmp 46) (.tmp 48), .some 49)), (none, (.fadr 2 (.tmp 49), .some 50)), (none, (.load none (.tmp 50), .some 51)), (none, (.bin .sub (.tmp 45) (.tmp 51), .some 52)), (none, (.mov (.tmp 52), .some 6))] [])) .skip)) (.seq
  (.reg [(none, (.mov (.tmp 3), .some 53)), (none, (.mov (.tmp 5), .some 54)), (none, (.call (.func 42) [.tmp 54], .some 55)), (none, (.app 1 1 (.tmp 53) (.tmp 55), .some 56)), (none, (.mov (.tmp 56), .some 3))] []) (.seq
  (.reg [(none, (.mov (.tmp 3), .some 57)), (none, (.mov (.tmp 0), .some 58)), (none, (.mov (.tmp 4), .some 59)), (none, (.iadr 3 (.tmp 58) (.tmp 59), .some 60)), (none, (.fadr 1 (.tmp 60), .some 61)), (none, (.load none (.tmp 61), .some 62)), (none, (.cvt .u8 (.tmp 62), .some 63)), (none, (.bsl 1 [.tmp 63], .some 64)), (none, (.app 1 1 (.tmp 57) (.tmp 64), .some 65)), (none, (.mov (.tmp 65), .some 3))] [])
  (.reg [(none, (.mov (.tmp 3), .some 66)), (none, (.mov (.tmp 6), .some 67)), (none, (.bin .sub (.tmp 67) (.const (.int .i64 1)), .some 68)), (none, (.cvt .u64 (.tmp 68), .some 69)), (none, (.call (.func 42) [.tmp 69], .some 70)), (none, (.app 1 1 (.tmp 66) (.tmp 70), .some 71)), (none, (.mov (.tmp 71), .some 3))] []))))))
  (.reg [(none, (.mov (.tmp 4), .some 15)), (none, (.bin .add (.tmp 15) (.const (.int .i64 1)), .some 16)), (none, (.mov (.tmp 16), .some 4))] [])))))) (.seq
  (.reg [(none, (.mov (.tmp 3), .some 72)), (none, (.mov (.tmp 72), .some 2))] []) .ret)))
theorem b117 : Try.f117.body.bind (compC Try.prog) = some c117 := by kernel_rfl
theorem r117 : compR Try.prog Try.f117 = .some [.tmp 2] := by kernel_rfl
theorem n117 : (Try.f117.name == "runtime.NumGoroutine") = false := by kernel_rfl
def c118 : C := .seq
  (.reg [(none, (.mov (.const (.slice none 0 0)), .some 2)), (none, (.mov (.const (.int .i64 0)), .some 3))] []) (.seq
  (.reg [(none, (.call (.func 37) [.const (.int .i64 1024)], .some 5)), (none, (.mov (.tmp 5), .some 4))] []) (.seq
  (.reg [(none, (.mov (.tmp 4), .some 6)), (none, (.mov (.tmp 0), .some 7)), (none, (.call (.func 119) [.tmp 6, .tmp 7], .some 8))] []) (.seq
  (.reg [(none, (.mov (.tmp 4), .some 9)), (none, (.call (.func 40) [.tmp 9], .some 10)), (none, (.ext (.tmp 10) 0, .some 11)), (none, (.ext (.tmp 10) 1, .some 12)), (none, (.mov (.tmp 11), .some 2)), (none, (.mov (.tmp 12), .some 3))] []) .ret)))
theorem b118 : Try.f118.body.bind (compC Try.prog) = some c118 := by kernel_rfl
theorem r118 : compR Try.prog Try.f118 = .some [.tmp 2, .tmp 3] := by kernel_rfl
theorem n118 : (Try.f118.name == "runtime.NumGoroutine") = false := by kernel_rfl
def c120 : C := .seq
  (.reg [(none, (.mov (.const (.bool .false)), .some 2))] []) (.seq
  (.reg [(none, (.mov (.const (.int .u64 0)), .some 3))] []) (.seq
  (.reg [(none, (.mov (.const (.int .i64 0)), .some 4))] []) (.seq (.seq
  (.reg [(none, (.mov (.tmp 0), .some 7)), (none, (.len .false (.tmp 7), .some 8)), (none, (.mov (.const (.int .i64 0)), .some 9))] []) (.block 0 (.loop (.seq
  (.reg [(none, (.bin .lss (.tmp 9) (.tmp 8), .some 10))] []) (.seq (.cond (.tmp 10) .skip (.exit 0)) (.seq (.block 1 (.seq
  (.reg [(none, (.iadr 3 (.tmp 7) (.tmp 9), .some 11)), (none, (.load (.some 3) (.tmp 11), .some 12)), (none, (.new [.int .u64 0, .int .i64 0, .int .i64 0], .some 6)), (none, (.store 3 (.tmp 6) (.tmp 12), none))] []) (.seq (.seq
  (.reg [(none, (.load (.some 3) (.tmp 6), .some 13)), (none, (.mov (.tmp 3), .some 14)), (none, (.mov (.tmp 4), .some 15)), (none, (.call (.func 141) [.tmp 13, .tmp 14, .tmp 15], .some 16)), (none, (.un .not (.tmp 16), .some 17))] []) (.cond (.tmp 17) (.seq
  (.reg [(none, (.mov (.const (.bool .false)), .some 2))] []) .ret) .skip))
  (.reg [(none, (.load (.some 3) (.tmp 6), .some 18)), (none, (.call (.func 126) [.tmp 18], .some 19)), (none, (.fadr 2 (.tmp 6), .some 20)), (none, (.load none (.tmp 20), .some 21)), (none, (.mov (.tmp 19), .some 3)), (none, (.mov (.tmp 21), .some 4))] [(0, 3), (1, 3)]))))
  (.reg [(none, (.bin .add (.tmp 9) (.const (.int .i64 1)), .some 22)), (none, (.mov (.tmp 22), .some 9))] []))))))) (.seq
  (.reg [(none, (.mov (.tmp 0), .some 23)), (none, (.len .false (.tmp 23), .some 24)), (none, (.bin .leq (.tmp 24) (.const (.int .i64 16)), .some 25)), (none, (.mov (.tmp 25), .some 2))] []) .ret))))
theorem b120 : Try.f120.body.bind (compC Try.prog) = some c120 := by kernel_rfl
theorem r120 : compR Try.prog Try.f120 = .some [.tmp 2] := by kernel_rfl
theorem n120 : (Try.f120.name == "runtime.NumGoroutine") = false := by kernel_rfl
def c123 : C := .seq
  (.reg [(none, (.mov (.const (.int .i64 0)), .some 2))] []) (.seq (.seq
  (.reg [(none, (.mov (.tmp 0), .some 3)), (none, (.eqp .false (.tmp 3) (.const (.pointer none)), .some 4))] []) (.cond (.tmp 4) (.seq
  (.reg [(none, (.mov (.const (.int .i64 19)), .some 2))] []) .ret) .skip)) (.seq
  (.reg [(none, (.mov (.tmp 0), .some 5)), (none, (.nilc (.tmp 5), .some 6)), (none, (.fadr 2 (.tmp 6), .some 7)), (none, (.load none (.tmp 7), .some 8)), (none, (.mov (.tmp 8), .some 2))] []) .ret))
theorem b123 : Try.f123.body.bind (compC Try.prog) = some c123 := by kernel_rfl
theorem r123 : compR Try.prog Try.f123 = .some [.tmp 2] := by kernel_rfl
theorem n123 : (Try.f123.name == "runtime.NumGoroutine") = false := by kernel_rfl
def c137 : C := .seq
  (.reg [(none, (.mov (.const (.slice none 0 0)), .some 4))] []) (.seq (.seq
  (.reg [(none, (.mov (.tmp 0), .some 5)), (none, (.mov (.tmp 1), .some 6)), (none, (.call (.func 81) [.tmp 5, .tmp 6], .some 7)), (none, (.un .not (.tmp 7), .some 8))] []) (.cond (.tmp 8) (.seq
  (.reg [(none, (.mov (.const (.slice none 0 0)), .some 4))] []) .ret) .skip)) (.seq
  (.reg [(none, (.bsl 1 [], .some 9)), (none, (.mov (.tmp 0), .some 10)), (none, (.nilc (.tmp 10), .some 11)), (none, (.fadr 0 (.tmp 11), .some 12)), (none, (.load none (.tmp 12), .some 13)), (none, (.mov (.tmp 0), .some 14)), (none, (.nilc (.tmp 14), .some 15)), (none, (.fadr 1 (.tmp 15), .some 16)), (none, (.load none (.tmp 16), .some 17)), (none, (.mov (.tmp 1), .some 18)), (none, (.bin .sub (.tmp 17) (.tmp 18), .some 19)), (none, (.mov (.tmp 0), .some 20)), (none, (.nilc (.tmp 20), .some 21)), (none, (.fadr 1 (.tmp 21), .some 22)), (none, (.load none (.tmp 22), .some 23)), (none, (.slice 1 (.tmp 13) (.some (.tmp 19)) (.some (.tmp 23)) none, .some 24)), (none, (.app 1 1 (.tmp 9) (.tmp 24), .some 25)), (none, (.mov (.tmp 25), .some 4))] [(4, 8), (4, 14), (8, 14)]) .ret))
theorem b137 : Try.f137.body.bind (compC Try.prog) = some c137 := by kernel_rfl
theorem r137 : compR Try.prog Try.f137 = .some [.tmp 4] := by kernel_rfl
theorem n137 : (Try.f137.name == "runtime.NumGoroutine") = false := by kernel_rfl
end Go.Proofs.Ytgphhganepjaiaa
