/-
  The codes of the seat's functions over abstract values, each shown to be its function's own (by program: wip/tools/codes.py).
-/
import Derived.Test.YtgphhganepjaiaaA2
import Derived.Test.YtgphhganepjaiaaProg
import Derived.KernelRfl
namespace Go.Proofs.Ytgphhganepjaiaa
def c26 : C := .seq
  (.reg [(none, (.mov (.const (.bool .false)), .some 2))] []) (.seq (.seq
  (.reg [(none, (.mov (.tmp 0), .some 7)), (none, (.len .false (.tmp 7), .some 8)), (none, (.bin .gtr (.tmp 8) (.const (.int .i64 300)), .some 9))] []) (.cond (.tmp 9) (.seq
  (.reg [(none, (.call (.func 66) [], .some 10)), (none, (.mov (.tmp 10), .some 2))] []) .ret) .skip)) (.seq
  (.reg [(none, (.mov (.tmp 0), .some 11)), (none, (.call (.func 73) [.tmp 11], .some 12)), (none, (.mov (.tmp 12), .some 3))] []) (.seq
  (.reg [(none, (.mov (.tmp 3), .some 13)), (none, (.call (.func 114) [.tmp 13], .some 14)), (none, (.mov (.tmp 14), .some 4))] []) (.seq
  (.reg [(none, (.mov (.tmp 0), .some 16)), (none, (.build [.slice none 0 0, .int .i64 0, .int .i64 0, .int .i64 0] [(0, (1, .tmp 16))], .some 17)), (none, (.call (.func 115) [.tmp 17], .some 18)), (none, (.mov (.tmp 18), .some 15)), (none, (.ext (.tmp 15) 0, .some 19)), (none, (.ext (.tmp 15) 1, .some 20)), (none, (.new [.slice none 0 0, .int .i64 0, .int .i64 0, .int .i64 0], .some 5)), (none, (.store 4 (.tmp 5) (.tmp 19), none)), (none, (.mov (.tmp 20), .some 6))] []) (.seq (.seq
  (.reg [(none, (.mov (.tmp 4), .some 21)), (none, (.mov (.tmp 6), .some 22)), (none, (.call (.func 116) [.tmp 21, .tmp 22], .some 23)), (none, (.un .not (.tmp 23), .some 24)), (none, (.mov (.tmp 24), .some 25)), (.some (25, .false), (.mov (.tmp 3), .some 26)), (.some (25, .false), (.call (.func 78) [.tmp 26], .some 27)), (.some (25, .false), (.fadr 2 (.tmp 5), .some 28)), (.some (25, .false), (.load (.some 2) (.tmp 28), .some 29)), (.some (25, .false), (.eqa .true 2 (.tmp 27) (.tmp 29), .some 30)), (none, (.pick (.tmp 25) (.const (.bool .true)) (.tmp 30), .some 31))] [(6, 8)]) (.cond (.tmp 31) (.seq
  (.reg [(none, (.mov (.const (.bool .false)), .some 2))] []) .ret) .skip)) (.seq (.seq
  (.reg [(none, (.fadr 2 (.tmp 5), .some 32)), (none, (.fadr 0 (.tmp 32), .some 33)), (none, (.load none (.tmp 33), .some 34)), (none, (.bin .neq (.tmp 34) (.const (.int .i64 0)), .some 35))] []) (.cond (.tmp 35) (.seq
  (.reg [(none, (.call (.func 66) [], .some 36)), (none, (.mov (.tmp 36), .some 2))] []) .ret) .skip)) (.seq
  (.reg [(none, (.mov (.tmp 3), .some 37)), (none, (.call (.func 79) [.tmp 37], .some 38)), (none, (.fadr 1 (.tmp 5), .some 39)), (none, (.load none (.tmp 39), .some 40)), (none, (.bin .eql (.tmp 38) (.tmp 40), .some 41)), (none, (.mov (.tmp 41), .some 42)), (.some (42, .true), (.mov (.tmp 4), .some 43)), (.some (42, .true), (.call (.func 69) [.tmp 43], .some 44)), (none, (.pick (.tmp 42) (.tmp 44) (.const (.bool .false)), .some 45)), (none, (.mov (.tmp 45), .some 46)), (.some (46, .true), (.mov (.tmp 4), .some 47)), (.some (46, .true), (.call (.func 117) [.tmp 47], .some 48)), (.some (46, .true), (.mov (.tmp 0), .some 49)), (.some (46, .true), (.fadr 1 (.tmp 5), .some 50)), (.some (46, .true), (.load none (.tmp 50), .some 51)), (.some (46, .true), (.slice 1 (.tmp 49) none (.some (.tmp 51)) none, .some 52)), (.some (46, .true), (.call (.func 41) [.tmp 48, .tmp 52], .some 53)), (none, (.pick (.tmp 46) (.tmp 53) (.const (.bool .false)), .some 54)), (none, (.mov (.tmp 54), .some 55)), (.some (55, .true), (.call (.func 66) [], .some 56)), (none, (.pick (.tmp 55) (.tmp 56) (.const (.bool .false)), .some 57)), (none, (.mov (.tmp 57), .some 2))] [(1, 3), (11, 14)]) .ret)))))))
theorem b26 : Try.f26.body.bind (compC Try.prog) = some c26 := by kernel_rfl
theorem r26 : compR Try.prog Try.f26 = .some [.tmp 2] := by kernel_rfl
theorem n26 : (Try.f26.name == "runtime.NumGoroutine") = false := by kernel_rfl
def c27 : C := .seq
  (.reg [(none, (.mov (.const (.bool .false)), .some 6))] []) (.seq (.seq
  (.reg [(none, (.mov (.tmp 0), .some 14)), (none, (.len .false (.tmp 14), .some 15)), (none, (.bin .gtr (.tmp 15) (.const (.int .i64 100)), .some 16)), (none, (.mov (.tmp 16), .some 17)), (.some (17, .false), (.mov (.tmp 1), .some 18)), (.some (17, .false), (.len .false (.tmp 18), .some 19)), (.some (17, .false), (.bin .gtr (.tmp 19) (.const (.int .i64 100)), .some 20)), (none, (.pick (.tmp 17) (.const (.bool .true)) (.tmp 20), .some 21)), (none, (.mov (.tmp 21), .some 22)), (.some (22, .false), (.mov (.tmp 2), .some 23)), (.some (22, .false), (.len .false (.tmp 23), .some 24)), (.some (22, .false), (.bin .gtr (.tmp 24) (.const (.int .i64 300)), .some 25)), (none, (.pick (.tmp 22) (.const (.bool .true)) (.tmp 25), .some 26))] []) (.cond (.tmp 26) (.seq
  (.reg [(none, (.call (.func 66) [], .some 27)), (none, (.mov (.tmp 27), .some 6))] []) .ret) .skip)) (.seq
  (.reg [(none, (.mov (.tmp 0), .some 29)), (none, (.call (.func 118) [.tmp 29], .some 30)), (none, (.mov (.tmp 30), .some 28)), (none, (.ext (.tmp 28) 0, .some 31)), (none, (.ext (.tmp 28) 1, .some 32)), (none, (.mov (.tmp 31), .some 7)), (none, (.mov (.tmp 32), .some 8))] []) (.seq
  (.reg [(none, (.call (.func 37) [.const (.int .i64 2000)], .some 33)), (none, (.mov (.tmp 33), .some 9))] []) (.seq
  (.reg [(none, (.mov (.tmp 9), .some 34)), (none, (.mov (.tmp 0), .some 35)), (none, (.call (.func 119) [.tmp 34, .tmp 35], .some 36))] []) (.seq (.seq
  (.reg [(none, (.mov (.tmp 9), .some 38)), (none, (.call (.func 40) [.tmp 38], .some 39)), (none, (.mov (.tmp 39), .some 37)), (none, (.ext (.tmp 37) 0, .some 40)), (none, (.ext (.tmp 37) 1, .some 41)), (none, (.mov (.tmp 40), .some 10)), (none, (.mov (.tmp 41), .some 11))] []) (.seq
  (.reg [(none, (.mov (.tmp 11), .some 42)), (none, (.mov (.tmp 8), .some 43)), (none, (.bin .neq (.tmp 42) (.tmp 43), .some 44)), (none, (.mov (.tmp 44), .some 45)), (.some (45, .false), (.mov (.tmp 10), .some 46)), (.some (45, .false), (.mov (.tmp 7), .some 47)), (.some (45, .false), (.call (.func 41) [.tmp 46, .tmp 47], .some 48)), (.some (45, .false), (.un .not (.tmp 48), .some 49)), (none, (.pick (.tmp 45) (.const (.bool .true)) (.tmp 49), .some 50))] []) (.cond (.tmp 50) (.seq
  (.reg [(none, (.mov (.const (.bool .false)), .some 6))] []) .ret) .skip))) (.seq (.seq
  (.reg [(none, (.mov (.tmp 0), .some 51)), (none, (.call (.func 120) [.tmp 51], .some 52)), (none, (.mov (.tmp 0), .some 53)), (none, (.call (.func 69) [.tmp 53], .some 54)), (none, (.eqb .true (.tmp 52) (.tmp 54), .some 55)), (none, (.mov (.tmp 55), .some 56)), (.some (56, .false), (.mov (.tmp 0), .some 57)), (.some (56, .false), (.mov (.tmp 1), .some 58)), (.some (56, .false), (.call (.func 121) [.tmp 57, .tmp 58], .some 59)), (.some (56, .false), (.mov (.tmp 0), .some 60)), (.some (56, .false), (.mov (.tmp 1), .some 61)), (.some (56, .false), (.call (.func 116) [.tmp 60, .tmp 61], .some 62)), (.some (56, .false), (.eqb .true (.tmp 59) (.tmp 62), .some 63)), (none, (.pick (.tmp 56) (.const (.bool .true)) (.tmp 63), .some 64))] []) (.cond (.tmp 64) (.seq
  (.reg [(none, (.mov (.const (.bool .false)), .some 6))] []) .ret) .skip)) (.seq (.seq
  (.reg [(none, (.mov (.tmp 0), .some 65)), (none, (.call (.func 69) [.tmp 65], .some 66)), (none, (.un .not (.tmp 66), .some 67))] []) (.cond (.tmp 67) (.seq
  (.reg [(none, (.mov (.tmp 8), .some 68)), (none, (.bin .eql (.tmp 68) (.const (.int .i64 3)), .some 69)), (none, (.mov (.tmp 69), .some 70)), (.some (70, .true), (.mov (.tmp 7), .some 71)), (.some (70, .true), (.len .false (.tmp 71), .some 72)), (.some (70, .true), (.bin .eql (.tmp 72) (.const (.int .i64 0)), .some 73)), (none, (.pick (.tmp 70) (.tmp 73) (.const (.bool .false)), .some 74)), (none, (.mov (.tmp 74), .some 75)), (.some (75, .true), (.call (.func 66) [], .some 76)), (none, (.pick (.tmp 75) (.tmp 76) (.const (.bool .false)), .some 77)), (none, (.mov (.tmp 77), .some 6))] []) .ret) .skip)) (.seq
  (.reg [(none, (.bsl 1 [], .some 78)), (none, (.mov (.tmp 7), .some 79)), (none, (.app 1 1 (.tmp 78) (.tmp 79), .some 80)), (none, (.mov (.tmp 2), .some 81)), (none, (.app 1 1 (.tmp 80) (.tmp 81), .some 82)), (none, (.call (.func 73) [.tmp 82], .some 83)), (none, (.mov (.tmp 83), .some 12))] []) (.seq
  (.reg [(none, (.mov (.tmp 12), .some 84)), (none, (.call (.func 114) [.tmp 84], .some 85)), (none, (.mov (.tmp 85), .some 13))] []) (.seq
  (.reg [(none, (.mov (.tmp 8), .some 86)), (none, (.bin .eql (.tmp 86) (.const (.int .i64 0)), .some 87)), (none, (.mov (.tmp 87), .some 88)), (.some (88, .true), (.mov (.tmp 7), .some 89)), (.some (88, .true), (.mov (.tmp 0), .some 90)), (.some (88, .true), (.call (.func 117) [.tmp 90], .some 91)), (.some (88, .true), (.call (.func 41) [.tmp 89, .tmp 91], .some 92)), (none, (.pick (.tmp 88) (.tmp 92) (.const (.bool .false)), .some 93)), (none, (.mov (.tmp 93), .some 94)), (.some (94, .true), (.mov (.tmp 12), .some 95)), (.some (94, .true), (.call (.func 102) [.tmp 95], .some 96)), (none, (.pick (.tmp 94) (.tmp 96) (.const (.bool .false)), .some 97)), (none, (.mov (.tmp 97), .some 98)), (.some (98, .true), (.mov (.tmp 12), .some 99)), (.some (98, .true), (.call (.func 79) [.tmp 99], .some 100)), (.some (98, .true), (.mov (.tmp 7), .some 101)), (.some (98, .true), (.len .false (.tmp 101), .some 102)), (.some (98, .true), (.bin .eql (.tmp 100) (.tmp 102), .some 103)), (none, (.pick (.tmp 98) (.tmp 103) (.const (.bool .false)), .some 104)), (none, (.mov (.tmp 104), .some 105)), (.some (105, .true), (.mov (.tmp 13), .some 106)), (.some (105, .true), (.mov (.tmp 0), .some 107)), (.some (105, .true), (.call (.func 116) [.tmp 106, .tmp 107], .some 108)), (none, (.pick (.tmp 105) (.tmp 108) (.const (.bool .false)), .some 109)), (none, (.mov (.tmp 109), .some 110)), (.some (110, .true), (.call (.func 66) [], .some 111)), (none, (.pick (.tmp 110) (.tmp 111) (.const (.bool .false)), .some 112)), (none, (.mov (.tmp 112), .some 6))] []) .ret))))))))))
theorem b27 : Try.f27.body.bind (compC Try.prog) = some c27 := by kernel_rfl
theorem r27 : compR Try.prog Try.f27 = .some [.tmp 6] := by kernel_rfl
theorem n27 : (Try.f27.name == "runtime.NumGoroutine") = false := by kernel_rfl
def c37 : C := .seq
  (.reg [(none, (.mov (.const (.pointer none)), .some 2))] []) (.seq
  (.reg [(none, (.mov (.tmp 0), .some 3)), (none, (.mx .true (.tmp 3) (.const (.int .i64 0)), .some 4)), (none, (.build [.int .i64 0, .slice none 0 0, .int .i64 0] [(0, (1, .tmp 4))], .some 5)), (none, (.box (.tmp 5), .some 6)), (none, (.mov (.tmp 6), .some 2))] []) .ret)
theorem b37 : Try.f37.body.bind (compC Try.prog) = some c37 := by kernel_rfl
theorem r37 : compR Try.prog Try.f37 = .some [.tmp 2] := by kernel_rfl
theorem n37 : (Try.f37.name == "runtime.NumGoroutine") = false := by kernel_rfl
def c41 : C := .seq
  (.reg [(none, (.mov (.const (.bool .false)), .some 4))] []) (.seq
  (.reg [(none, (.mov (.tmp 0), .some 5)), (none, (.b2s (.tmp 5), .some 6)), (none, (.mov (.tmp 1), .some 7)), (none, (.b2s (.tmp 7), .some 8)), (none, (.bin .eql (.tmp 6) (.tmp 8), .some 9)), (none, (.mov (.tmp 9), .some 4))] []) .ret)
theorem b41 : Try.f41.body.bind (compC Try.prog) = some c41 := by kernel_rfl
theorem r41 : compR Try.prog Try.f41 = .some [.tmp 4] := by kernel_rfl
theorem n41 : (Try.f41.name == "runtime.NumGoroutine") = false := by kernel_rfl
def c68 : C := .seq
  (.reg [(none, (.mov (.const (.int .u64 0)), .some 2)), (none, (.mov (.const (.int .u64 0)), .some 3))] []) (.seq (.seq
  (.reg [(none, (.mov (.tmp 0), .some 4)), (none, (.len .false (.tmp 4), .some 5)), (none, (.bin .eql (.tmp 5) (.const (.int .i64 0)), .some 6)), (none, (.mov (.tmp 6), .some 7)), (.some (7, .false), (.mov (.tmp 0), .some 8)), (.some (7, .false), (.call (.func 120) [.tmp 8], .some 9)), (.some (7, .false), (.un .not (.tmp 9), .some 10)), (none, (.pick (.tmp 7) (.const (.bool .true)) (.tmp 10), .some 11))] []) (.cond (.tmp 11) (.seq
  (.reg [(none, (.mov (.const (.int .u64 0)), .some 2)), (none, (.mov (.const (.int .u64 0)), .some 3))] []) .ret) .skip)) (.seq
  (.reg [(none, (.mov (.tmp 0), .some 12)), (none, (.iadr 3 (.tmp 12) (.const (.int .i64 0)), .some 13)), (none, (.fadr 0 (.tmp 13), .some 14)), (none, (.load none (.tmp 14), .some 15)), (none, (.mov (.tmp 0), .some 16)), (none, (.mov (.tmp 0), .some 17)), (none, (.len .false (.tmp 17), .some 18)), (none, (.bin .sub (.tmp 18) (.const (.int .i64 1)), .some 19)), (none, (.iadr 3 (.tmp 16) (.tmp 19), .some 20)), (none, (.load (.some 3) (.tmp 20), .some 21)), (none, (.call (.func 126) [.tmp 21], .some 22)), (none, (.mov (.tmp 15), .some 2)), (none, (.mov (.tmp 22), .some 3))] [(3, 9), (3, 10)]) .ret))
theorem b68 : Try.f68.body.bind (compC Try.prog) = some c68 := by kernel_rfl
theorem r68 : compR Try.prog Try.f68 = .some [.tmp 2, .tmp 3] := by kernel_rfl
theorem n68 : (Try.f68.name == "runtime.NumGoroutine") = false := by kernel_rfl
def c69 : C := .seq
  (.reg [(none, (.mov (.const (.bool .false)), .some 2))] []) (.seq (.seq
  (.reg [(none, (.mov (.tmp 0), .some 5)), (none, (.len .false (.tmp 5), .some 6)), (none, (.bin .gtr (.tmp 6) (.const (.int .i64 16)), .some 7))] []) (.cond (.tmp 7) (.seq
  (.reg [(none, (.mov (.const (.bool .false)), .some 2))] []) .ret) .skip)) (.seq (.seq
  (.reg [(none, (.mov (.const (.int .i64 0)), .some 3))] []) (.block 0 (.loop (.seq (.seq
  (.reg [(none, (.mov (.tmp 3), .some 8)), (none, (.mov (.tmp 0), .some 9)), (none, (.len .false (.tmp 9), .some 10)), (none, (.bin .lss (.tmp 8) (.tmp 10), .some 11))] []) (.cond (.tmp 11) .skip (.exit 0))) (.seq (.block 1 (.seq
  (.reg [(none, (.mov (.tmp 0), .some 14)), (none, (.mov (.tmp 3), .some 15)), (none, (.iadr 3 (.tmp 14) (.tmp 15), .some 16)), (none, (.load (.some 3) (.tmp 16), .some 17)), (none, (.new [.int .u64 0, .int .i64 0, .int .i64 0], .some 4)), (none, (.store 3 (.tmp 4) (.tmp 17), none))] []) (.seq (.seq
  (.reg [(none, (.fadr 1 (.tmp 4), .some 18)), (none, (.load none (.tmp 18), .some 19)), (none, (.bin .lss (.tmp 19) (.const (.int .i64 1)), .some 20)), (none, (.mov (.tmp 20), .some 21)), (.some (21, .false), (.fadr 1 (.tmp 4), .some 22)), (.some (21, .false), (.load none (.tmp 22), .some 23)), (.some (21, .false), (.bin .gtr (.tmp 23) (.const (.int .i64 16)), .some 24)), (none, (.pick (.tmp 21) (.const (.bool .true)) (.tmp 24), .some 25)), (none, (.mov (.tmp 25), .some 26)), (.some (26, .false), (.fadr 0 (.tmp 4), .some 27)), (.some (26, .false), (.load none (.tmp 27), .some 28)), (.some (26, .false), (.fadr 1 (.tmp 4), .some 29)), (.some (26, .false), (.load none (.tmp 29), .some 30)), (.some (26, .false), (.cvt .u64 (.tmp 30), .some 31)), (.some (26, .false), (.bin .sub (.const (.int .u64 4611686018427387904)) (.tmp 31), .some 32)), (.some (26, .false), (.bin .gtr (.tmp 28) (.tmp 32), .some 33)), (none, (.pick (.tmp 26) (.const (.bool .true)) (.tmp 33), .some 34)), (none, (.mov (.tmp 34), .some 35)), (.some (35, .false), (.fadr 2 (.tmp 4), .some 36)), (.some (35, .false), (.load none (.tmp 36), .some 37)), (.some (35, .false), (.bin .lss (.tmp 37) (.const (.int .i64 1)), .some 38)), (none, (.pick (.tmp 35) (.const (.bool .true)) (.tmp 38), .some 39)), (none, (.mov (.tmp 39), .some 40)), (.some (40, .false), (.fadr 2 (.tmp 4), .some 41)), (.some (40, .false), (.load none (.tmp 41), .some 42)), (.some (40, .false), (.bin .gtr (.tmp 42) (.const (.int .i64 1099511627775)), .some 43)), (none, (.pick (.tmp 40) (.const (.bool .true)) (.tmp 43), .some 44))] []) (.cond (.tmp 44) (.seq
  (.reg [(none, (.mov (.const (.bool .false)), .some 2))] []) .ret) .skip)) (.seq
  (.reg [(none, (.mov (.tmp 3), .some 45)), (none, (.bin .gtr (.tmp 45) (.const (.int .i64 0)), .some 46)), (none, (.mov (.tmp 46), .some 47)), (.some (47, .true), (.fadr 0 (.tmp 4), .some 48)), (.some (47, .true), (.load none (.tmp 48), .some 49)), (.some (47, .true), (.mov (.tmp 0), .some 50)), (.some (47, .true), (.mov (.tmp 3), .some 51)), (.some (47, .true), (.bin .sub (.tmp 51) (.const (.int .i64 1)), .some 52)), (.some (47, .true), (.iadr 3 (.tmp 50) (.tmp 52), .some 53)), (.some (47, .true), (.fadr 0 (.tmp 53), .some 54)), (.some (47, .true), (.load none (.tmp 54), .some 55)), (.some (47, .true), (.mov (.tmp 0), .some 56)), (.some (47, .true), (.mov (.tmp 3), .some 57)), (.some (47, .true), (.bin .sub (.tmp 57) (.const (.int .i64 1)), .some 58)), (.some (47, .true), (.iadr 3 (.tmp 56) (.tmp 58), .some 59)), (.some (47, .true), (.fadr 1 (.tmp 59), .some 60)), (.some (47, .true), (.load none (.tmp 60), .some 61)), (.some (47, .true), (.cvt .u64 (.tmp 61), .some 62)), (.some (47, .true), (.bin .add (.tmp 55) (.tmp 62), .some 63)), (.some (47, .true), (.bin .lss (.tmp 49) (.tmp 63), .some 64)), (.some (47, .true), (.mov (.tmp 64), .some 65)), (.some (65, .false), (.fadr 2 (.tmp 4), .some 66)), (.some (65, .false), (.load none (.tmp 66), .some 67)), (.some (65, .false), (.mov (.tmp 0), .some 68)), (.some (65, .false), (.mov (.tmp 3), .some 69)), (.some (65, .false), (.bin .sub (.tmp 69) (.const (.int .i64 1)), .some 70)), (.some (65, .false), (.iadr 3 (.tmp 68) (.tmp 70), .some 71)), (.some (65, .false), (.fadr 2 (.tmp 71), .some 72)), (.some (65, .false), (.load none (.tmp 72), .some 73)), (.some (65, .false), (.bin .leq (.tmp 67) (.tmp 73), .some 74)), (.some (47, .true), (.pick (.tmp 65) (.const (.bool .true)) (.tmp 74), .some 75)), (none, (.pick (.tmp 47) (.tmp 75) (.const (.bool .false)), .some 76))] [(4, 10), (4, 16), (10, 16), (22, 28)]) (.cond (.tmp 76) (.seq
  (.reg [(none, (.mov (.const (.bool .false)), .some 2))] []) .ret) .skip)))))
  (.reg [(none, (.mov (.tmp 3), .some 12)), (none, (.bin .add (.tmp 12) (.const (.int .i64 1)), .some 13)), (none, (.mov (.tmp 13), .some 3))] [])))))) (.seq
  (.reg [(none, (.mov (.const (.bool .true)), .some 2))] []) .ret)))
theorem b69 : Try.f69.body.bind (compC Try.prog) = some c69 := by kernel_rfl
theorem r69 : compR Try.prog Try.f69 = .some [.tmp 2] := by kernel_rfl
theorem n69 : (Try.f69.name == "runtime.NumGoroutine") = false := by kernel_rfl
def c81 : C := .seq
  (.reg [(none, (.mov (.const (.bool .false)), .some 4))] []) (.seq (.block 0 (.seq
  (.reg [(none, (.mov (.tmp 0), .some 6)), (none, (.call (.func 102) [.tmp 6], .some 7)), (none, (.un .not (.tmp 7), .some 8)), (none, (.mov (.tmp 8), .some 5))] []) (.cond (.tmp 5) (.seq
  (.reg [(none, (.mov (.const (.bool .false)), .some 4))] []) .ret) (.seq
  (.reg [(none, (.mov (.tmp 1), .some 10)), (none, (.bin .lss (.tmp 10) (.const (.int .i64 0)), .some 11)), (none, (.mov (.tmp 11), .some 9))] []) (.cond (.tmp 9) (.seq
  (.reg [(none, (.mov (.tmp 0), .some 12)), (none, (.mov (.tmp 0), .some 13)), (none, (.nilc (.tmp 13), .some 14)), (none, (.fadr 1 (.tmp 14), .some 15)), (none, (.load none (.tmp 15), .some 16)), (none, (.call (.func 132) [.tmp 12, .const (.int .i64 17), .tmp 16], .some 17))] []) (.seq
  (.reg [(none, (.mov (.const (.bool .false)), .some 4))] []) .ret)) (.seq
  (.reg [(none, (.mov (.tmp 1), .some 19)), (none, (.mov (.tmp 0), .some 20)), (none, (.call (.func 111) [.tmp 20], .some 21)), (none, (.bin .gtr (.tmp 19) (.tmp 21), .some 22)), (none, (.mov (.tmp 22), .some 18))] []) (.cond (.tmp 18) (.seq
  (.reg [(none, (.mov (.tmp 0), .some 23)), (none, (.mov (.tmp 0), .some 24)), (none, (.nilc (.tmp 24), .some 25)), (none, (.fadr 0 (.tmp 25), .some 26)), (none, (.load none (.tmp 26), .some 27)), (none, (.len .false (.tmp 27), .some 28)), (none, (.call (.func 132) [.tmp 23, .const (.int .i64 1), .tmp 28], .some 29))] []) (.seq
  (.reg [(none, (.mov (.const (.bool .false)), .some 4))] []) .ret)) .skip))))))) (.seq
  (.reg [(none, (.mov (.tmp 0), .some 30)), (none, (.nilc (.tmp 30), .some 31)), (none, (.fadr 1 (.tmp 31), .some 32)), (none, (.load none (.tmp 32), .some 33)), (none, (.mov (.tmp 1), .some 34)), (none, (.bin .add (.tmp 33) (.tmp 34), .some 35)), (none, (.nilc (.tmp 30), .some 36)), (none, (.fadr 1 (.tmp 36), .some 37)), (none, (.store 1 (.tmp 37) (.tmp 35), none))] []) (.seq
  (.reg [(none, (.mov (.const (.bool .true)), .some 4))] []) .ret)))
theorem b81 : Try.f81.body.bind (compC Try.prog) = some c81 := by kernel_rfl
theorem r81 : compR Try.prog Try.f81 = .some [.tmp 4] := by kernel_rfl
theorem n81 : (Try.f81.name == "runtime.NumGoroutine") = false := by kernel_rfl
def c86 : C := .seq
  (.reg [(none, (.mov (.const (.int .u64 0)), .some 4))] []) (.seq
  (.reg [(none, (.mov (.tmp 0), .some 7)), (none, (.call (.func 79) [.tmp 7], .some 8)), (none, (.mov (.tmp 8), .some 5))] []) (.seq
  (.reg [(none, (.mov (.tmp 0), .some 9)), (none, (.call (.func 85) [.tmp 9], .some 10)), (none, (.mov (.tmp 10), .some 6))] []) (.seq (.seq
  (.reg [(none, (.mov (.tmp 6), .some 11)), (none, (.mov (.tmp 1), .some 12)), (none, (.bin .gtr (.tmp 11) (.tmp 12), .some 13))] []) (.cond (.tmp 13) (.seq
  (.reg [(none, (.mov (.tmp 0), .some 14)), (none, (.mov (.tmp 5), .some 15)), (none, (.call (.func 132) [.tmp 14, .const (.int .i64 2), .tmp 15], .some 16))] []) (.seq
  (.reg [(none, (.mov (.const (.int .u64 0)), .some 4))] []) .ret)) .skip)) (.seq
  (.reg [(none, (.mov (.tmp 6), .some 17)), (none, (.mov (.tmp 17), .some 4))] []) .ret))))
theorem b86 : Try.f86.body.bind (compC Try.prog) = some c86 := by kernel_rfl
theorem r86 : compR Try.prog Try.f86 = .some [.tmp 4] := by kernel_rfl
theorem n86 : (Try.f86.name == "runtime.NumGoroutine") = false := by kernel_rfl
def c116 : C := .seq
  (.reg [(none, (.mov (.const (.bool .false)), .some 4))] []) (.seq (.seq
  (.reg [(none, (.mov (.tmp 0), .some 6)), (none, (.len .false (.tmp 6), .some 7)), (none, (.mov (.tmp 1), .some 8)), (none, (.len .false (.tmp 8), .some 9)), (none, (.bin .neq (.tmp 7) (.tmp 9), .some 10))] []) (.cond (.tmp 10) (.seq
  (.reg [(none, (.mov (.const (.bool .false)), .some 4))] []) .ret) .skip)) (.seq (.seq
  (.reg [(none, (.mov (.const (.int .i64 0)), .some 5))] []) (.block 0 (.loop (.seq (.seq
  (.reg [(none, (.mov (.tmp 5), .some 11)), (none, (.mov (.tmp 0), .some 12)), (none, (.len .false (.tmp 12), .some 13)), (none, (.bin .lss (.tmp 11) (.tmp 13), .some 14))] []) (.cond (.tmp 14) .skip (.exit 0))) (.seq (.block 1 (.seq
  (.reg [(none, (.mov (.tmp 0), .some 17)), (none, (.mov (.tmp 5), .some 18)), (none, (.iadr 3 (.tmp 17) (.tmp 18), .some 19)), (none, (.load (.some 3) (.tmp 19), .some 20)), (none, (.mov (.tmp 1), .some 21)), (none, (.mov (.tmp 5), .some 22)), (none, (.iadr 3 (.tmp 21) (.tmp 22), .some 23)), (none, (.load (.some 3) (.tmp 23), .some 24)), (none, (.eqa .true 3 (.tmp 20) (.tmp 24), .some 25))] [(3, 7)]) (.cond (.tmp 25) (.seq
  (.reg [(none, (.mov (.const (.bool .false)), .some 4))] []) .ret) .skip)))
  (.reg [(none, (.mov (.tmp 5), .some 15)), (none, (.bin .add (.tmp 15) (.const (.int .i64 1)), .some 16)), (none, (.mov (.tmp 16), .some 5))] [])))))) (.seq
  (.reg [(none, (.mov (.const (.bool .true)), .some 4))] []) .ret)))
theorem b116 : Try.f116.body.bind (compC Try.prog) = some c116 := by kernel_rfl
theorem r116 : compR Try.prog Try.f116 = .some [.tmp 4] := by kernel_rfl
theorem n116 : (Try.f116.name == "runtime.NumGoroutine") = false := by kernel_rfl
def c119 : C := .seq (.seq
  (.reg [(none, (.mov (.tmp 1), .some 8)), (none, (.call (.func 120) [.tmp 8], .some 9)), (none, (.un .not (.tmp 9), .some 10))] []) (.cond (.tmp 10) (.seq
  (.reg [(none, (.mov (.tmp 0), .some 11)), (none, (.call (.func 124) [.tmp 11, .const (.int .i64 3)], .some 12))] []) .ret) .skip)) (.seq
  (.reg [(none, (.mov (.tmp 0), .some 13)), (none, (.mov (.tmp 1), .some 14)), (none, (.len .false (.tmp 14), .some 15)), (none, (.cvt .u64 (.tmp 15), .some 16)), (none, (.call (.func 91) [.tmp 13, .tmp 16], .some 17))] []) (.seq
  (.reg [(none, (.mov (.const (.int .u64 0)), .some 4))] []) (.seq
  (.reg [(none, (.mov (.const (.int .i64 0)), .some 5))] []) (.seq
  (.reg [(none, (.mov (.tmp 1), .some 18)), (none, (.len .false (.tmp 18), .some 19)), (none, (.mov (.const (.int .i64 0)), .some 20))] []) (.block 0 (.loop (.seq
  (.reg [(none, (.bin .lss (.tmp 20) (.tmp 19), .some 21))] []) (.seq (.cond (.tmp 21) .skip (.exit 0)) (.seq (.block 1 (.seq
  (.reg [(none, (.iadr 3 (.tmp 18) (.tmp 20), .some 22)), (none, (.load (.some 3) (.tmp 22), .some 23)), (none, (.new [.int .u64 0, .int .i64 0, .int .i64 0], .some 7)), (none, (.store 3 (.tmp 7) (.tmp 23), none))] []) (.seq
  (.reg [(none, (.mov (.tmp 0), .some 24)), (none, (.fadr 0 (.tmp 7), .some 25)), (none, (.load none (.tmp 25), .some 26)), (none, (.mov (.tmp 4), .some 27)), (none, (.bin .sub (.tmp 26) (.tmp 27), .some 28)), (none, (.call (.func 91) [.tmp 24, .tmp 28], .some 29))] []) (.seq
  (.reg [(none, (.mov (.tmp 0), .some 30)), (none, (.fadr 1 (.tmp 7), .some 31)), (none, (.load none (.tmp 31), .some 32)), (none, (.cvt .u64 (.tmp 32), .some 33)), (none, (.call (.func 91) [.tmp 30, .tmp 33], .some 34))] []) (.seq
  (.reg [(none, (.mov (.tmp 0), .some 35)), (none, (.fadr 2 (.tmp 7), .some 36)), (none, (.load none (.tmp 36), .some 37)), (none, (.mov (.tmp 5), .some 38)), (none, (.bin .sub (.tmp 37) (.tmp 38), .some 39)), (none, (.bin .sub (.tmp 39) (.const (.int .i64 1)), .some 40)), (none, (.cvt .u64 (.tmp 40), .some 41)), (none, (.call (.func 91) [.tmp 35, .tmp 41], .some 42))] [])
  (.reg [(none, (.load (.some 3) (.tmp 7), .some 43)), (none, (.call (.func 126) [.tmp 43], .some 44)), (none, (.fadr 2 (.tmp 7), .some 45)), (none, (.load none (.tmp 45), .some 46)), (none, (.mov (.tmp 44), .some 4)), (none, (.mov (.tmp 46), .some 5))] [(0, 3), (1, 3)]))))))
  (.reg [(none, (.bin .add (.tmp 20) (.const (.int .i64 1)), .some 47)), (none, (.mov (.tmp 47), .some 20))] []))))))))))
theorem b119 : Try.f119.body.bind (compC Try.prog) = some c119 := by kernel_rfl
theorem r119 : compR Try.prog Try.f119 = .some [] := by kernel_rfl
theorem n119 : (Try.f119.name == "runtime.NumGoroutine") = false := by kernel_rfl
def c129 : C := .seq
  (.reg [(none, (.box (.tmp 0), .some 3)), (none, (.new [.slice none 0 0, .int .i64 0, .int .i64 0, .int .i64 0], .some 6))] []) (.seq (.seq
  (.reg [(none, (.fadr 2 (.tmp 3), .some 7)), (none, (.fadr 0 (.tmp 7), .some 8)), (none, (.load none (.tmp 8), .some 9)), (none, (.bin .eql (.tmp 9) (.const (.int .i64 0)), .some 10))] []) (.cond (.tmp 10)
  (.reg [(none, (.mov (.tmp 1), .some 11)), (none, (.mov (.tmp 2), .some 12)), (none, (.call (.func 131) [.tmp 11, .tmp 12], .some 13)), (none, (.fadr 2 (.tmp 3), .some 14)), (none, (.store 2 (.tmp 14) (.tmp 13), none))] []) .skip)) (.seq
  (.reg [(none, (.load (.some 4) (.tmp 3), .some 15)), (none, (.store 4 (.tmp 6) (.tmp 15), none))] []) .ret))
theorem b129 : Try.f129.body.bind (compC Try.prog) = some c129 := by kernel_rfl
theorem r129 : compR Try.prog Try.f129 = .some [.cell 6 (.some 4)] := by kernel_rfl
theorem n129 : (Try.f129.name == "runtime.NumGoroutine") = false := by kernel_rfl
def c130 : C := .seq
  (.reg [(none, (.new [.int .i64 0, .int .i64 0], .some 4))] []) (.seq (.seq
  (.reg [(none, (.mov (.tmp 0), .some 5)), (none, (.bin .eql (.tmp 5) (.const (.int .i64 0)), .some 6))] []) (.cond (.tmp 6) (.seq
  (.reg [(none, (.build [.int .i64 0, .int .i64 0] [], .some 7)), (none, (.store 2 (.tmp 4) (.tmp 7), none))] []) .ret) .skip)) (.seq
  (.reg [(none, (.mov (.tmp 0), .some 8)), (none, (.mov (.tmp 1), .some 9)), (none, (.build [.int .i64 0, .int .i64 0] [(0, (1, .tmp 8)), (1, (1, .tmp 9))], .some 10)), (none, (.store 2 (.tmp 4) (.tmp 10), none))] []) .ret))
theorem b130 : Try.f130.body.bind (compC Try.prog) = some c130 := by kernel_rfl
theorem r130 : compR Try.prog Try.f130 = .some [.cell 4 (.some 2)] := by kernel_rfl
theorem n130 : (Try.f130.name == "runtime.NumGoroutine") = false := by kernel_rfl
def c134 : C := .seq
  (.reg [(none, (.mov (.const (.int .i64 0)), .some 4))] []) (.seq
  (.reg [(none, (.mov (.tmp 0), .some 8)), (none, (.mov (.const (.int .i64 0)), .some 5)), (none, (.mov (.tmp 8), .some 6))] []) (.seq (.block 0 (.loop (.seq (.seq
  (.reg [(none, (.mov (.tmp 5), .some 9)), (none, (.mov (.tmp 6), .some 10)), (none, (.bin .lss (.tmp 9) (.tmp 10), .some 11))] []) (.cond (.tmp 11) .skip (.exit 0))) (.block 1 (.seq
  (.reg [(none, (.mov (.tmp 5), .some 12)), (none, (.mov (.tmp 6), .some 13)), (none, (.bin .add (.tmp 12) (.tmp 13), .some 14)), (none, (.cvt .u64 (.tmp 14), .some 15)), (none, (.bin .shr (.tmp 15) (.const (.int .u64 1)), .some 16)), (none, (.cvt .i64 (.tmp 16), .some 17)), (none, (.mov (.tmp 17), .some 7))] []) (.seq
  (.reg [(none, (.mov (.tmp 1), .some 18)), (none, (.mov (.tmp 7), .some 19)), (none, (.call (.tmp 18) [.tmp 19], .some 20)), (none, (.un .not (.tmp 20), .some 21))] []) (.cond (.tmp 21)
  (.reg [(none, (.mov (.tmp 7), .some 22)), (none, (.bin .add (.tmp 22) (.const (.int .i64 1)), .some 23)), (none, (.mov (.tmp 23), .some 5))] [])
  (.reg [(none, (.mov (.tmp 7), .some 24)), (none, (.mov (.tmp 24), .some 6))] [])))))))) (.seq
  (.reg [(none, (.mov (.tmp 5), .some 25)), (none, (.mov (.tmp 25), .some 4))] []) .ret)))
theorem b134 : Try.f134.body.bind (compC Try.prog) = some c134 := by kernel_rfl
theorem r134 : compR Try.prog Try.f134 = .some [.tmp 4] := by kernel_rfl
theorem n134 : (Try.f134.name == "runtime.NumGoroutine") = false := by kernel_rfl
def c135 : C := .seq
  (.reg [(none, (.mov (.const (.bool .false)), .some 4))] []) (.seq
  (.reg [(none, (.load none (.tmp 1), .some 5)), (none, (.load none (.tmp 2), .some 6)), (none, (.mov (.tmp 0), .some 7)), (none, (.iadr 3 (.tmp 6) (.tmp 7), .some 8)), (none, (.load (.some 3) (.tmp 8), .some 9)), (none, (.call (.func 126) [.tmp 9], .some 10)), (none, (.bin .lss (.tmp 5) (.tmp 10), .some 11)), (none, (.mov (.tmp 11), .some 4))] [(0, 1), (0, 4), (0, 5)]) .ret)
theorem b135 : Try.f135.body.bind (compC Try.prog) = some c135 := by kernel_rfl
theorem r135 : compR Try.prog Try.f135 = .some [.tmp 4] := by kernel_rfl
theorem n135 : (Try.f135.name == "runtime.NumGoroutine") = false := by kernel_rfl
end Go.Proofs.Ytgphhganepjaiaa
