/-
  The codes of the seat's functions over abstract values, each shown to be its function's own (by program: wip/tools/codes.py).
-/
import Derived.Test.YtpjkmidjjodplaaA2
import Derived.Test.YtpjkmidjjodplaaProg
import Derived.KernelRfl
namespace Go.Proofs.Ytpjkmidjjodplaa
def c2 : C := .reg [(none, (.call (.func 1) [], .some 0))] []
theorem b2 : Try.f2.body.bind (compC Try.prog) = some c2 := by kernel_rfl
theorem r2 : compR Try.prog Try.f2 = .some [] := by kernel_rfl
theorem n2 : (Try.f2.name == "runtime.NumGoroutine") = false := by kernel_rfl
def c8 : C := .seq
  (.reg [(none, (.mov (.const (.bool .false)), .some 4))] []) (.seq (.seq
  (.reg [(none, (.mov (.tmp 0), .some 13)), (none, (.len .false (.tmp 13), .some 14)), (none, (.bin .gtr (.tmp 14) (.const (.int .i64 500)), .some 15))] []) (.cond (.tmp 15) (.seq
  (.reg [(none, (.call (.func 18) [], .some 16)), (none, (.mov (.tmp 16), .some 4))] []) .ret) .skip)) (.seq
  (.reg [(none, (.mov (.tmp 1), .some 17)), (none, (.mx .false (.tmp 17) (.const (.int .i64 5000)), .some 18)), (none, (.mov (.tmp 18), .some 1))] []) (.seq
  (.reg [(none, (.mov (.tmp 0), .some 20)), (none, (.mov (.tmp 1), .some 21)), (none, (.call (.func 47) [.tmp 20, .tmp 21], .some 22)), (none, (.mov (.tmp 22), .some 19)), (none, (.ext (.tmp 19) 0, .some 23)), (none, (.ext (.tmp 19) 1, .some 24)), (none, (.new [.int .i64 0, .int .i64 0], .some 6)), (none, (.mov (.tmp 23), .some 5)), (none, (.store 2 (.tmp 6) (.tmp 24), none))] []) (.seq
  (.reg [(none, (.mov (.tmp 0), .some 26)), (none, (.mov (.tmp 1), .some 27)), (none, (.call (.func 48) [.tmp 26, .tmp 27], .some 28)), (none, (.mov (.tmp 28), .some 25)), (none, (.ext (.tmp 25) 0, .some 29)), (none, (.ext (.tmp 25) 1, .some 30)), (none, (.new [.int .i64 0, .int .i64 0], .some 8)), (none, (.mov (.tmp 29), .some 7)), (none, (.store 2 (.tmp 8) (.tmp 30), none))] []) (.seq
  (.reg [(none, (.mov (.tmp 0), .some 32)), (none, (.call (.func 49) [.tmp 32], .some 33)), (none, (.mov (.tmp 33), .some 31)), (none, (.ext (.tmp 31) 0, .some 34)), (none, (.ext (.tmp 31) 1, .some 35)), (none, (.new [.int .i64 0, .int .i64 0], .some 10)), (none, (.mov (.tmp 34), .some 9)), (none, (.store 2 (.tmp 10) (.tmp 35), none))] []) (.seq
  (.reg [(none, (.mov (.tmp 0), .some 37)), (none, (.call (.func 50) [.tmp 37], .some 38)), (none, (.mov (.tmp 38), .some 36)), (none, (.ext (.tmp 36) 0, .some 39)), (none, (.ext (.tmp 36) 1, .some 40)), (none, (.new [.int .i64 0, .int .i64 0], .some 12)), (none, (.mov (.tmp 39), .some 11)), (none, (.store 2 (.tmp 12) (.tmp 40), none))] []) (.seq
  (.reg [(none, (.mov (.tmp 5), .some 41)), (none, (.mov (.tmp 7), .some 42)), (none, (.call (.func 21) [.tmp 41, .tmp 42], .some 43)), (none, (.mov (.tmp 43), .some 44)), (.some (44, .true), (.load (.some 2) (.tmp 6), .some 45)), (.some (44, .true), (.load (.some 2) (.tmp 8), .some 46)), (.some (44, .true), (.eqa .false 2 (.tmp 45) (.tmp 46), .some 47)), (none, (.pick (.tmp 44) (.tmp 47) (.const (.bool .false)), .some 48)), (none, (.mov (.tmp 48), .some 49)), (.some (49, .true), (.mov (.tmp 5), .some 50)), (.some (49, .true), (.len .false (.tmp 50), .some 51)), (.some (49, .true), (.mov (.tmp 1), .some 52)), (.some (49, .true), (.mx .true (.tmp 52) (.const (.int .i64 0)), .some 53)), (.some (49, .true), (.bin .leq (.tmp 51) (.tmp 53), .some 54)), (none, (.pick (.tmp 49) (.tmp 54) (.const (.bool .false)), .some 55)), (none, (.mov (.tmp 55), .some 56)), (.some (56, .true), (.mov (.tmp 9), .some 57)), (.some (56, .true), (.mov (.tmp 11), .some 58)), (.some (56, .true), (.bin .eql (.tmp 57) (.tmp 58), .some 59)), (none, (.pick (.tmp 56) (.tmp 59) (.const (.bool .false)), .some 60)), (none, (.mov (.tmp 60), .some 61)), (.some (61, .true), (.load (.some 2) (.tmp 10), .some 62)), (.some (61, .true), (.load (.some 2) (.tmp 12), .some 63)), (.some (61, .true), (.eqa .false 2 (.tmp 62) (.tmp 63), .some 64)), (none, (.pick (.tmp 61) (.tmp 64) (.const (.bool .false)), .some 65)), (none, (.mov (.tmp 65), .some 66)), (.some (66, .true), (.fadr 0 (.tmp 6), .some 67)), (.some (66, .true), (.load none (.tmp 67), .some 68)), (.some (66, .true), (.bin .neq (.tmp 68) (.const (.int .i64 0)), .some 69)), (.some (66, .true), (.mov (.tmp 69), .some 70)), (.some (70, .false), (.mov (.tmp 9), .some 71)), (.some (70, .false), (.mov (.tmp 5), .some 72)), (.some (70, .false), (.len .false (.tmp 72), .some 73)), (.some (70, .false), (.bin .eql (.tmp 71) (.tmp 73), .some 74)), (.some (66, .true), (.pick (.tmp 70) (.const (.bool .true)) (.tmp 74), .some 75)), (none, (.pick (.tmp 66) (.tmp 75) (.const (.bool .false)), .some 76)), (none, (.mov (.tmp 76), .some 77)), (.some (77, .true), (.call (.func 18) [], .some 78)), (none, (.pick (.tmp 77) (.tmp 78) (.const (.bool .false)), .some 79)), (none, (.mov (.tmp 79), .some 4))] []) .ret)))))))
theorem b8 : Try.f8.body.bind (compC Try.prog) = some c8 := by kernel_rfl
theorem r8 : compR Try.prog Try.f8 = .some [.tmp 4] := by kernel_rfl
theorem n8 : (Try.f8.name == "runtime.NumGoroutine") = false := by kernel_rfl
def c10 : C := .seq
  (.reg [(none, (.mov (.const (.bool .false)), .some 2))] []) (.seq (.seq
  (.reg [(none, (.mov (.tmp 0), .some 7)), (none, (.call (.func 17) [.tmp 7], .some 8))] []) (.cond (.tmp 8) (.seq
  (.reg [(none, (.call (.func 37) [], .some 9)), (none, (.mov (.tmp 9), .some 2))] []) .ret) .skip)) (.seq
  (.reg [(none, (.mov (.tmp 0), .some 11)), (none, (.call (.func 43) [.tmp 11], .some 12)), (none, (.mov (.tmp 12), .some 10)), (none, (.ext (.tmp 10) 0, .some 13)), (none, (.ext (.tmp 10) 1, .some 14)), (none, (.mov (.tmp 13), .some 3)), (none, (.mov (.tmp 14), .some 4))] []) (.seq (.seq
  (.reg [(none, (.mov (.tmp 4), .some 15)), (none, (.bin .neq (.tmp 15) (.const (.int .i64 0)), .some 16))] []) (.cond (.tmp 16) (.seq
  (.reg [(none, (.call (.func 37) [], .some 17)), (none, (.mov (.tmp 17), .some 2))] []) .ret) .skip)) (.seq
  (.reg [(none, (.mov (.tmp 3), .some 19)), (none, (.call (.func 51) [.tmp 19], .some 20)), (none, (.mov (.tmp 20), .some 18)), (none, (.ext (.tmp 18) 0, .some 21)), (none, (.ext (.tmp 18) 1, .some 22)), (none, (.new [.int .i64 0, .int .i64 0], .some 6)), (none, (.mov (.tmp 21), .some 5)), (none, (.store 2 (.tmp 6) (.tmp 22), none))] []) (.seq
  (.reg [(none, (.load (.some 2) (.tmp 6), .some 23)), (none, (.build [.int .i64 0, .int .i64 0] [], .some 24)), (none, (.eqa .false 2 (.tmp 23) (.tmp 24), .some 25)), (none, (.mov (.tmp 25), .some 26)), (.some (26, .true), (.mov (.tmp 5), .some 27)), (.some (26, .true), (.mov (.tmp 0), .some 28)), (.some (26, .true), (.call (.func 46) [.tmp 27, .tmp 28], .some 29)), (none, (.pick (.tmp 26) (.tmp 29) (.const (.bool .false)), .some 30)), (none, (.mov (.tmp 30), .some 31)), (.some (31, .true), (.call (.func 37) [], .some 32)), (none, (.pick (.tmp 31) (.tmp 32) (.const (.bool .false)), .some 33)), (none, (.mov (.tmp 33), .some 2))] []) .ret)))))
theorem b10 : Try.f10.body.bind (compC Try.prog) = some c10 := by kernel_rfl
theorem r10 : compR Try.prog Try.f10 = .some [.tmp 2] := by kernel_rfl
theorem n10 : (Try.f10.name == "runtime.NumGoroutine") = false := by kernel_rfl
def c12 : C := .seq
  (.reg [(none, (.mov (.const (.bool .false)), .some 6))] []) (.seq (.seq
  (.reg [(none, (.mov (.tmp 0), .some 17)), (none, (.len .false (.tmp 17), .some 18)), (none, (.bin .gtr (.tmp 18) (.const (.int .i64 500)), .some 19)), (none, (.mov (.tmp 19), .some 20)), (.some (20, .false), (.mov (.tmp 1), .some 21)), (.some (20, .false), (.len .false (.tmp 21), .some 22)), (.some (20, .false), (.bin .gtr (.tmp 22) (.const (.int .i64 500)), .some 23)), (none, (.pick (.tmp 20) (.const (.bool .true)) (.tmp 23), .some 24))] []) (.cond (.tmp 24) (.seq
  (.reg [(none, (.call (.func 27) [], .some 25)), (none, (.mov (.tmp 25), .some 6))] []) .ret) .skip)) (.seq
  (.reg [(none, (.mov (.tmp 0), .some 27)), (none, (.call (.func 28) [.tmp 27], .some 28)), (none, (.mov (.tmp 28), .some 26)), (none, (.ext (.tmp 26) 0, .some 29)), (none, (.ext (.tmp 26) 1, .some 30)), (none, (.mov (.tmp 29), .some 7)), (none, (.mov (.tmp 30), .some 8))] []) (.seq
  (.reg [(none, (.bsl 1 [], .some 32)), (none, (.mov (.tmp 7), .some 33)), (none, (.app 1 1 (.tmp 32) (.tmp 33), .some 34)), (none, (.mov (.tmp 1), .some 35)), (none, (.app 1 1 (.tmp 34) (.tmp 35), .some 36)), (none, (.call (.func 61) [.tmp 36, .const (.int .i64 500)], .some 37)), (none, (.mov (.tmp 37), .some 31)), (none, (.ext (.tmp 31) 0, .some 38)), (none, (.ext (.tmp 31) 1, .some 39)), (none, (.ext (.tmp 31) 2, .some 40)), (none, (.new [.int .i64 0, .int .i64 0], .some 11)), (none, (.mov (.tmp 38), .some 9)), (none, (.mov (.tmp 39), .some 10)), (none, (.store 2 (.tmp 11) (.tmp 40), none))] []) (.seq (.seq
  (.reg [(none, (.load (.some 2) (.tmp 11), .some 41)), (none, (.build [.int .i64 0, .int .i64 0] [], .some 42)), (none, (.eqa .true 2 (.tmp 41) (.tmp 42), .some 43)), (none, (.mov (.tmp 43), .some 44)), (.some (44, .false), (.mov (.tmp 10), .some 45)), (.some (44, .false), (.mov (.tmp 7), .some 46)), (.some (44, .false), (.len .false (.tmp 46), .some 47)), (.some (44, .false), (.bin .neq (.tmp 45) (.tmp 47), .some 48)), (none, (.pick (.tmp 44) (.const (.bool .true)) (.tmp 48), .some 49)), (none, (.mov (.tmp 49), .some 50)), (.some (50, .false), (.mov (.tmp 9), .some 51)), (.some (50, .false), (.mov (.tmp 0), .some 52)), (.some (50, .false), (.call (.func 21) [.tmp 51, .tmp 52], .some 53)), (.some (50, .false), (.un .not (.tmp 53), .some 54)), (none, (.pick (.tmp 50) (.const (.bool .true)) (.tmp 54), .some 55))] []) (.cond (.tmp 55) (.seq
  (.reg [(none, (.mov (.const (.bool .false)), .some 6))] []) .ret) .skip)) (.seq (.seq
  (.reg [(none, (.mov (.tmp 7), .some 56)), (none, (.len .false (.tmp 56), .some 57)), (none, (.bin .lss (.tmp 57) (.const (.int .i64 5)), .some 58))] []) (.cond (.tmp 58) (.seq
  (.reg [(none, (.mov (.const (.bool .false)), .some 6))] []) .ret) .skip)) (.seq
  (.reg [(none, (.mov (.tmp 2), .some 59)), (none, (.mx .true (.tmp 59) (.const (.int .i64 0)), .some 60)), (none, (.mov (.tmp 7), .some 61)), (none, (.len .false (.tmp 61), .some 62)), (none, (.bin .sub (.tmp 62) (.const (.int .i64 1)), .some 63)), (none, (.mx .false (.tmp 60) (.tmp 63), .some 64)), (none, (.mov (.tmp 64), .some 2))] []) (.seq
  (.reg [(none, (.mov (.tmp 7), .some 66)), (none, (.mov (.tmp 2), .some 67)), (none, (.slice 1 (.tmp 66) none (.some (.tmp 67)) none, .some 68)), (none, (.call (.func 61) [.tmp 68, .const (.int .i64 500)], .some 69)), (none, (.mov (.tmp 69), .some 65)), (none, (.ext (.tmp 65) 0, .some 70)), (none, (.ext (.tmp 65) 1, .some 71)), (none, (.ext (.tmp 65) 2, .some 72)), (none, (.mov (.tmp 70), .some 9)), (none, (.mov (.tmp 71), .some 10)), (none, (.store 2 (.tmp 11) (.tmp 72), none))] []) (.seq (.seq
  (.reg [(none, (.mov (.tmp 9), .some 73)), (none, (.len .false (.tmp 73), .some 74)), (none, (.bin .neq (.tmp 74) (.const (.int .i64 0)), .some 75)), (none, (.mov (.tmp 75), .some 76)), (.some (76, .false), (.mov (.tmp 10), .some 77)), (.some (76, .false), (.bin .neq (.tmp 77) (.const (.int .i64 0)), .some 78)), (none, (.pick (.tmp 76) (.const (.bool .true)) (.tmp 78), .some 79)), (none, (.mov (.tmp 79), .some 80)), (.some (80, .false), (.load (.some 2) (.tmp 11), .some 81)), (.some (80, .false), (.mov (.tmp 2), .some 82)), (.some (80, .false), (.build [.int .i64 0, .int .i64 0] [(0, (1, .const (.int .i64 1))), (1, (1, .tmp 82))], .some 83)), (.some (80, .false), (.eqa .true 2 (.tmp 81) (.tmp 83), .some 84)), (none, (.pick (.tmp 80) (.const (.bool .true)) (.tmp 84), .some 85))] []) (.cond (.tmp 85) (.seq
  (.reg [(none, (.mov (.const (.bool .false)), .some 6))] []) .ret) .skip)) (.seq
  (.reg [(none, (.mov (.tmp 1), .some 87)), (none, (.call (.func 61) [.tmp 87, .const (.int .i64 500)], .some 88)), (none, (.mov (.tmp 88), .some 86)), (none, (.ext (.tmp 86) 0, .some 89)), (none, (.ext (.tmp 86) 1, .some 90)), (none, (.ext (.tmp 86) 2, .some 91)), (none, (.new [.int .i64 0, .int .i64 0], .some 14)), (none, (.mov (.tmp 89), .some 12)), (none, (.mov (.tmp 90), .some 13)), (none, (.store 2 (.tmp 14) (.tmp 91), none))] []) (.seq (.seq
  (.reg [(none, (.fadr 0 (.tmp 14), .some 92)), (none, (.load none (.tmp 92), .some 93)), (none, (.bin .neq (.tmp 93) (.const (.int .i64 0)), .some 94))] []) (.cond (.tmp 94) (.seq
  (.reg [(none, (.call (.func 27) [], .some 95)), (none, (.mov (.tmp 95), .some 6))] []) .ret) .skip)) (.seq
  (.reg [(none, (.mov (.tmp 12), .some 97)), (none, (.call (.func 28) [.tmp 97], .some 98)), (none, (.mov (.tmp 98), .some 96)), (none, (.ext (.tmp 96) 0, .some 99)), (none, (.ext (.tmp 96) 1, .some 100)), (none, (.mov (.tmp 99), .some 15)), (none, (.mov (.tmp 100), .some 16))] []) (.seq
  (.reg [(none, (.mov (.tmp 16), .some 101)), (none, (.bin .eql (.tmp 101) (.const (.int .i64 0)), .some 102)), (none, (.mov (.tmp 102), .some 103)), (.some (103, .true), (.mov (.tmp 15), .some 104)), (.some (103, .true), (.mov (.tmp 1), .some 105)), (.some (103, .true), (.mov (.tmp 13), .some 106)), (.some (103, .true), (.slice 1 (.tmp 105) none (.some (.tmp 106)) none, .some 107)), (.some (103, .true), (.call (.func 21) [.tmp 104, .tmp 107], .some 108)), (none, (.pick (.tmp 103) (.tmp 108) (.const (.bool .false)), .some 109)), (none, (.mov (.tmp 109), .some 110)), (.some (110, .true), (.call (.func 27) [], .some 111)), (none, (.pick (.tmp 110) (.tmp 111) (.const (.bool .false)), .some 112)), (none, (.mov (.tmp 112), .some 6))] []) .ret))))))))))))
theorem b12 : Try.f12.body.bind (compC Try.prog) = some c12 := by kernel_rfl
theorem r12 : compR Try.prog Try.f12 = .some [.tmp 6] := by kernel_rfl
theorem n12 : (Try.f12.name == "runtime.NumGoroutine") = false := by kernel_rfl
def c13 : C := .seq
  (.reg [(none, (.box (.tmp 2), .some 5)), (none, (.mov (.const (.bool .false)), .some 6))] []) (.seq (.seq
  (.reg [(none, (.mov (.tmp 0), .some 17)), (none, (.len .false (.tmp 17), .some 18)), (none, (.bin .gtr (.tmp 18) (.const (.int .i64 500)), .some 19)), (none, (.mov (.tmp 19), .some 20)), (.some (20, .false), (.mov (.tmp 1), .some 21)), (.some (20, .false), (.len .false (.tmp 21), .some 22)), (.some (20, .false), (.bin .gtr (.tmp 22) (.const (.int .i64 500)), .some 23)), (none, (.pick (.tmp 20) (.const (.bool .true)) (.tmp 23), .some 24))] []) (.cond (.tmp 24) (.seq
  (.reg [(none, (.call (.func 27) [], .some 25)), (none, (.mov (.tmp 25), .some 6))] []) .ret) .skip)) (.seq
  (.reg [(none, (.mov (.tmp 0), .some 27)), (none, (.call (.func 28) [.tmp 27], .some 28)), (none, (.mov (.tmp 28), .some 26)), (none, (.ext (.tmp 26) 0, .some 29)), (none, (.ext (.tmp 26) 1, .some 30)), (none, (.mov (.tmp 29), .some 7)), (none, (.mov (.tmp 30), .some 8))] []) (.seq
  (.reg [(none, (.mov (.tmp 7), .some 31)), (none, (.len .false (.tmp 31), .some 32)), (none, (.mov (.tmp 0), .some 33)), (none, (.len .false (.tmp 33), .some 34)), (none, (.bin .sub (.tmp 32) (.tmp 34), .some 35)), (none, (.bin .sub (.tmp 35) (.const (.int .i64 4)), .some 36)), (none, (.mov (.tmp 36), .some 9))] []) (.seq (.seq
  (.reg [(none, (.mov (.tmp 9), .some 37)), (none, (.bin .lss (.tmp 37) (.const (.int .i64 1)), .some 38))] []) (.cond (.tmp 38) (.seq
  (.reg [(none, (.mov (.const (.bool .false)), .some 6))] []) .ret) .skip)) (.seq
  (.reg [(none, (.aadr 2 1 (.tmp 5) (.const (.int .i64 0)), .some 39)), (none, (.load none (.tmp 39), .some 40)), (none, (.cvt .i64 (.tmp 40), .some 41)), (none, (.mov (.tmp 0), .some 42)), (none, (.len .false (.tmp 42), .some 43)), (none, (.bin .add (.tmp 43) (.const (.int .i64 4)), .some 44)), (none, (.bin .mul (.const (.int .i64 8)) (.tmp 44), .some 45)), (none, (.bin .rem (.tmp 41) (.tmp 45), .some 46)), (none, (.mov (.tmp 46), .some 10))] []) (.seq
  (.reg [(none, (.mov (.tmp 7), .some 47)), (none, (.mov (.tmp 9), .some 48)), (none, (.slice 1 (.tmp 47) (.some (.tmp 48)) none none, .some 49)), (none, (.mov (.tmp 10), .some 50)), (none, (.aadr 2 1 (.tmp 5) (.const (.int .i64 1)), .some 51)), (none, (.load none (.tmp 51), .some 52)), (none, (.call (.func 62) [.tmp 49, .tmp 50, .tmp 52], .some 53)), (none, (.mov (.tmp 53), .some 11))] []) (.seq
  (.reg [(none, (.mov (.tmp 11), .some 54)), (none, (.mov (.tmp 7), .some 55)), (none, (.mov (.tmp 9), .some 56)), (none, (.slice 1 (.tmp 55) (.some (.tmp 56)) none none, .some 57)), (none, (.call (.func 21) [.tmp 54, .tmp 57], .some 58)), (none, (.un .not (.tmp 58), .some 59)), (none, (.mov (.tmp 59), .some 12))] []) (.seq
  (.reg [(none, (.mov (.const (.slice none 0 0)), .some 13))] []) (.seq
  (.reg [(none, (.mov (.tmp 13), .some 60)), (none, (.mov (.tmp 7), .some 61)), (none, (.mov (.tmp 9), .some 62)), (none, (.slice 1 (.tmp 61) none (.some (.tmp 62)) none, .some 63)), (none, (.app 1 1 (.tmp 60) (.tmp 63), .some 64)), (none, (.mov (.tmp 11), .some 65)), (none, (.app 1 1 (.tmp 64) (.tmp 65), .some 66)), (none, (.mov (.tmp 1), .some 67)), (none, (.app 1 1 (.tmp 66) (.tmp 67), .some 68)), (none, (.mov (.tmp 68), .some 13))] []) (.seq
  (.reg [(none, (.mov (.tmp 13), .some 70)), (none, (.call (.func 61) [.tmp 70, .const (.int .i64 500)], .some 71)), (none, (.mov (.tmp 71), .some 69)), (none, (.ext (.tmp 69) 0, .some 72)), (none, (.ext (.tmp 69) 1, .some 73)), (none, (.ext (.tmp 69) 2, .some 74)), (none, (.new [.int .i64 0, .int .i64 0], .some 16)), (none, (.mov (.tmp 72), .some 14)), (none, (.mov (.tmp 73), .some 15)), (none, (.store 2 (.tmp 16) (.tmp 74), none))] []) (.seq (.seq
  (.reg [(none, (.mov (.tmp 12), .some 75))] []) (.cond (.tmp 75) (.seq
  (.reg [(none, (.mov (.tmp 14), .some 76)), (none, (.len .false (.tmp 76), .some 77)), (none, (.bin .eql (.tmp 77) (.const (.int .i64 0)), .some 78)), (none, (.mov (.tmp 78), .some 79)), (.some (79, .true), (.mov (.tmp 15), .some 80)), (.some (79, .true), (.bin .eql (.tmp 80) (.const (.int .i64 0)), .some 81)), (none, (.pick (.tmp 79) (.tmp 81) (.const (.bool .false)), .some 82)), (none, (.mov (.tmp 82), .some 83)), (.some (83, .true), (.load (.some 2) (.tmp 16), .some 84)), (.some (83, .true), (.mov (.tmp 9), .some 85)), (.some (83, .true), (.mov (.tmp 0), .some 86)), (.some (83, .true), (.len .false (.tmp 86), .some 87)), (.some (83, .true), (.bin .add (.tmp 85) (.tmp 87), .some 88)), (.some (83, .true), (.build [.int .i64 0, .int .i64 0] [(0, (1, .const (.int .i64 6))), (1, (1, .tmp 88))], .some 89)), (.some (83, .true), (.eqa .false 2 (.tmp 84) (.tmp 89), .some 90)), (none, (.pick (.tmp 83) (.tmp 90) (.const (.bool .false)), .some 91)), (none, (.mov (.tmp 91), .some 92)), (.some (92, .true), (.call (.func 27) [], .some 93)), (none, (.pick (.tmp 92) (.tmp 93) (.const (.bool .false)), .some 94)), (none, (.mov (.tmp 94), .some 6))] []) .ret) .skip)) (.seq
  (.reg [(none, (.mov (.tmp 15), .some 95)), (none, (.mov (.tmp 7), .some 96)), (none, (.len .false (.tmp 96), .some 97)), (none, (.bin .eql (.tmp 95) (.tmp 97), .some 98)), (none, (.mov (.tmp 98), .some 99)), (.some (99, .true), (.fadr 0 (.tmp 16), .some 100)), (.some (99, .true), (.load none (.tmp 100), .some 101)), (.some (99, .true), (.bin .eql (.tmp 101) (.const (.int .i64 0)), .some 102)), (none, (.pick (.tmp 99) (.tmp 102) (.const (.bool .false)), .some 103)), (none, (.mov (.tmp 103), .some 104)), (.some (104, .true), (.call (.func 27) [], .some 105)), (none, (.pick (.tmp 104) (.tmp 105) (.const (.bool .false)), .some 106)), (none, (.mov (.tmp 106), .some 6))] []) .ret))))))))))))
theorem b13 : Try.f13.body.bind (compC Try.prog) = some c13 := by kernel_rfl
theorem r13 : compR Try.prog Try.f13 = .some [.tmp 6] := by kernel_rfl
theorem n13 : (Try.f13.name == "runtime.NumGoroutine") = false := by kernel_rfl
def c16 : C := .seq
  (.reg [(none, (.mov (.const (.bool .false)), .some 4))] []) (.seq (.seq
  (.reg [(none, (.mov (.tmp 0), .some 12)), (none, (.len .false (.tmp 12), .some 13)), (none, (.bin .gtr (.tmp 13) (.const (.int .i64 10)), .some 14)), (none, (.mov (.tmp 14), .some 15)), (.some (15, .false), (.mov (.tmp 1), .some 16)), (.some (15, .false), (.len .false (.tmp 16), .some 17)), (.some (15, .false), (.mov (.tmp 0), .some 18)), (.some (15, .false), (.len .false (.tmp 18), .some 19)), (.some (15, .false), (.bin .neq (.tmp 17) (.tmp 19), .some 20)), (none, (.pick (.tmp 15) (.const (.bool .true)) (.tmp 20), .some 21))] []) (.cond (.tmp 21) (.seq
  (.reg [(none, (.call (.func 27) [], .some 22)), (none, (.mov (.tmp 22), .some 4))] []) .ret) .skip)) (.seq
  (.reg [(none, (.mov (.const (.slice none 0 0)), .some 5))] []) (.seq
  (.reg [(none, (.mov (.const (.slice none 0 0)), .some 6))] []) (.seq (.seq
  (.reg [(none, (.mov (.const (.int .i64 0)), .some 7))] []) (.block 0 (.loop (.seq (.seq
  (.reg [(none, (.mov (.tmp 7), .some 23)), (none, (.mov (.tmp 0), .some 24)), (none, (.len .false (.tmp 24), .some 25)), (none, (.bin .lss (.tmp 23) (.tmp 25), .some 26))] []) (.cond (.tmp 26) .skip (.exit 0))) (.seq (.block 1 (.seq (.seq
  (.reg [(none, (.mov (.tmp 0), .some 29)), (none, (.mov (.tmp 7), .some 30)), (none, (.iadr 1 (.tmp 29) (.tmp 30), .some 31)), (none, (.load none (.tmp 31), .some 32)), (none, (.len .false (.tmp 32), .some 33)), (none, (.bin .gtr (.tmp 33) (.const (.int .i64 60)), .some 34)), (none, (.mov (.tmp 34), .some 35)), (.some (35, .false), (.mov (.tmp 1), .some 36)), (.some (35, .false), (.mov (.tmp 7), .some 37)), (.some (35, .false), (.iadr 1 (.tmp 36) (.tmp 37), .some 38)), (.some (35, .false), (.load none (.tmp 38), .some 39)), (.some (35, .false), (.len .false (.tmp 39), .some 40)), (.some (35, .false), (.bin .gtr (.tmp 40) (.const (.int .i64 30)), .some 41)), (none, (.pick (.tmp 35) (.const (.bool .true)) (.tmp 41), .some 42))] []) (.cond (.tmp 42) (.seq
  (.reg [(none, (.call (.func 27) [], .some 43)), (none, (.mov (.tmp 43), .some 4))] []) .ret) .skip)) (.seq
  (.reg [(none, (.mov (.tmp 5), .some 44)), (none, (.mov (.tmp 1), .some 45)), (none, (.mov (.tmp 7), .some 46)), (none, (.iadr 1 (.tmp 45) (.tmp 46), .some 47)), (none, (.load none (.tmp 47), .some 48)), (none, (.app 1 1 (.tmp 44) (.tmp 48), .some 49)), (none, (.mov (.tmp 49), .some 5))] []) (.seq
  (.reg [(none, (.mov (.tmp 6), .some 50)), (none, (.mov (.tmp 5), .some 51)), (none, (.len .false (.tmp 51), .some 52)), (none, (.bsl 1 [.tmp 52], .some 53)), (none, (.app 1 8 (.tmp 50) (.tmp 53), .some 54)), (none, (.mov (.tmp 54), .some 6))] [])
  (.reg [(none, (.mov (.tmp 5), .some 55)), (none, (.mov (.tmp 0), .some 56)), (none, (.mov (.tmp 7), .some 57)), (none, (.iadr 1 (.tmp 56) (.tmp 57), .some 58)), (none, (.load none (.tmp 58), .some 59)), (none, (.call (.func 34) [.tmp 59], .some 60)), (none, (.app 1 1 (.tmp 55) (.tmp 60), .some 61)), (none, (.mov (.tmp 61), .some 5))] [])))))
  (.reg [(none, (.mov (.tmp 7), .some 27)), (none, (.bin .add (.tmp 27) (.const (.int .i64 1)), .some 28)), (none, (.mov (.tmp 28), .some 7))] [])))))) (.seq
  (.reg [(none, (.mov (.const (.int .i64 0)), .some 8))] []) (.seq (.seq
  (.reg [(none, (.mov (.const (.int .i64 0)), .some 9))] []) (.block 2 (.loop (.seq (.seq
  (.reg [(none, (.mov (.tmp 9), .some 62)), (none, (.mov (.tmp 0), .some 63)), (none, (.len .false (.tmp 63), .some 64)), (none, (.bin .lss (.tmp 62) (.tmp 64), .some 65))] []) (.cond (.tmp 65) .skip (.exit 2))) (.seq (.block 3 (.seq (.seq
  (.reg [(none, (.mov (.tmp 5), .some 68)), (none, (.mov (.tmp 8), .some 69)), (none, (.call (.func 68) [.tmp 68, .tmp 69, .const (.int .i64 60)], .some 70)), (none, (.mov (.tmp 6), .some 71)), (none, (.mov (.tmp 9), .some 72)), (none, (.iadr 1 (.tmp 71) (.tmp 72), .some 73)), (none, (.load none (.tmp 73), .some 74)), (none, (.bin .neq (.tmp 70) (.tmp 74), .some 75))] [(2, 6)]) (.cond (.tmp 75) (.seq
  (.reg [(none, (.call (.func 27) [], .some 76)), (none, (.mov (.tmp 76), .some 4))] []) .ret) .skip))
  (.reg [(none, (.mov (.tmp 6), .some 77)), (none, (.mov (.tmp 9), .some 78)), (none, (.iadr 1 (.tmp 77) (.tmp 78), .some 79)), (none, (.load none (.tmp 79), .some 80)), (none, (.mov (.tmp 0), .some 81)), (none, (.mov (.tmp 9), .some 82)), (none, (.iadr 1 (.tmp 81) (.tmp 82), .some 83)), (none, (.load none (.tmp 83), .some 84)), (none, (.call (.func 34) [.tmp 84], .some 85)), (none, (.len .false (.tmp 85), .some 86)), (none, (.bin .add (.tmp 80) (.tmp 86), .some 87)), (none, (.mov (.tmp 87), .some 8))] [(3, 7), (3, 8)])))
  (.reg [(none, (.mov (.tmp 9), .some 66)), (none, (.bin .add (.tmp 66) (.const (.int .i64 1)), .some 67)), (none, (.mov (.tmp 67), .some 9))] [])))))) (.seq
  (.reg [(none, (.mov (.tmp 5), .some 88)), (none, (.call (.func 69) [.tmp 88, .const (.int .i64 60)], .some 89)), (none, (.mov (.tmp 89), .some 10))] []) (.seq (.seq
  (.reg [(none, (.mov (.tmp 10), .some 90)), (none, (.len .false (.tmp 90), .some 91)), (none, (.mov (.tmp 0), .some 92)), (none, (.len .false (.tmp 92), .some 93)), (none, (.bin .neq (.tmp 91) (.tmp 93), .some 94))] []) (.cond (.tmp 94) (.seq
  (.reg [(none, (.mov (.const (.bool .false)), .some 4))] []) .ret) .skip)) (.seq (.seq
  (.reg [(none, (.mov (.const (.int .i64 0)), .some 11))] []) (.block 4 (.loop (.seq (.seq
  (.reg [(none, (.mov (.tmp 11), .some 95)), (none, (.mov (.tmp 0), .some 96)), (none, (.len .false (.tmp 96), .some 97)), (none, (.bin .lss (.tmp 95) (.tmp 97), .some 98))] []) (.cond (.tmp 98) .skip (.exit 4))) (.seq (.block 5 (.seq
  (.reg [(none, (.mov (.tmp 10), .some 101)), (none, (.mov (.tmp 11), .some 102)), (none, (.iadr 1 (.tmp 101) (.tmp 102), .some 103)), (none, (.load none (.tmp 103), .some 104)), (none, (.mov (.tmp 6), .some 105)), (none, (.mov (.tmp 11), .some 106)), (none, (.iadr 1 (.tmp 105) (.tmp 106), .some 107)), (none, (.load none (.tmp 107), .some 108)), (none, (.bin .neq (.tmp 104) (.tmp 108), .some 109))] [(3, 7)]) (.cond (.tmp 109) (.seq
  (.reg [(none, (.mov (.const (.bool .false)), .some 4))] []) .ret) .skip)))
  (.reg [(none, (.mov (.tmp 11), .some 99)), (none, (.bin .add (.tmp 99) (.const (.int .i64 1)), .some 100)), (none, (.mov (.tmp 100), .some 11))] [])))))) (.seq
  (.reg [(none, (.call (.func 27) [], .some 110)), (none, (.mov (.tmp 110), .some 4))] []) .ret))))))))))
theorem b16 : Try.f16.body.bind (compC Try.prog) = some c16 := by kernel_rfl
theorem r16 : compR Try.prog Try.f16 = .some [.tmp 4] := by kernel_rfl
theorem n16 : (Try.f16.name == "runtime.NumGoroutine") = false := by kernel_rfl
def c17 : C := .seq
  (.reg [(none, (.mov (.const (.bool .false)), .some 2))] []) (.seq (.seq
  (.reg [(none, (.mov (.const (.int .i64 0)), .some 3))] []) (.block 0 (.loop (.seq (.seq
  (.reg [(none, (.mov (.tmp 3), .some 4)), (none, (.mov (.tmp 0), .some 5)), (none, (.len .false (.tmp 5), .some 6)), (none, (.bin .lss (.tmp 4) (.tmp 6), .some 7)), (none, (.mov (.tmp 7), .some 8)), (.some (8, .true), (.mov (.tmp 3), .some 9)), (.some (8, .true), (.bin .lss (.tmp 9) (.const (.int .i64 100)), .some 10)), (none, (.pick (.tmp 8) (.tmp 10) (.const (.bool .false)), .some 11))] []) (.cond (.tmp 11) .skip (.exit 0))) (.seq (.block 1 (.seq
  (.reg [(none, (.mov (.tmp 0), .some 14)), (none, (.mov (.tmp 3), .some 15)), (none, (.iadr 3 (.tmp 14) (.tmp 15), .some 16)), (none, (.fadr 0 (.tmp 16), .some 17)), (none, (.load none (.tmp 17), .some 18)), (none, (.len .false (.tmp 18), .some 19)), (none, (.bin .gtr (.tmp 19) (.const (.int .i64 300)), .some 20))] []) (.cond (.tmp 20) (.seq
  (.reg [(none, (.mov (.const (.bool .true)), .some 2))] []) .ret) .skip)))
  (.reg [(none, (.mov (.tmp 3), .some 12)), (none, (.bin .add (.tmp 12) (.const (.int .i64 1)), .some 13)), (none, (.mov (.tmp 13), .some 3))] [])))))) (.seq
  (.reg [(none, (.mov (.tmp 0), .some 21)), (none, (.len .false (.tmp 21), .some 22)), (none, (.bin .gtr (.tmp 22) (.const (.int .i64 100)), .some 23)), (none, (.mov (.tmp 23), .some 2))] []) .ret))
theorem b17 : Try.f17.body.bind (compC Try.prog) = some c17 := by kernel_rfl
theorem r17 : compR Try.prog Try.f17 = .some [.tmp 2] := by kernel_rfl
theorem n17 : (Try.f17.name == "runtime.NumGoroutine") = false := by kernel_rfl
def c26 : C := .seq
  (.reg [(none, (.box (.tmp 0), .some 1)), (none, (.mov (.const (.bool .false)), .some 2))] []) (.seq
  (.reg [(none, (.fadr 0 (.tmp 1), .some 3)), (none, (.load none (.tmp 3), .some 4)), (none, (.len .false (.tmp 4), .some 5)), (none, (.bin .eql (.tmp 5) (.const (.int .i64 0)), .some 6)), (none, (.mov (.tmp 6), .some 7)), (.some (7, .true), (.fadr 1 (.tmp 1), .some 8)), (.some (7, .true), (.load none (.tmp 8), .some 9)), (.some (7, .true), (.bin .geq (.tmp 9) (.const (.int .i64 1)), .some 10)), (none, (.pick (.tmp 7) (.tmp 10) (.const (.bool .false)), .some 11)), (none, (.mov (.tmp 11), .some 12)), (.some (12, .true), (.fadr 1 (.tmp 1), .some 13)), (.some (12, .true), (.load none (.tmp 13), .some 14)), (.some (12, .true), (.bin .leq (.tmp 14) (.const (.int .i64 65536)), .some 15)), (none, (.pick (.tmp 12) (.tmp 15) (.const (.bool .false)), .some 16)), (none, (.mov (.tmp 16), .some 17)), (.some (17, .true), (.fadr 2 (.tmp 1), .some 18)), (.some (17, .true), (.load none (.tmp 18), .some 19)), (.some (17, .true), (.bin .geq (.tmp 19) (.const (.int .i64 4)), .some 20)), (none, (.pick (.tmp 17) (.tmp 20) (.const (.bool .false)), .some 21)), (none, (.mov (.tmp 21), .some 22)), (.some (22, .true), (.fadr 2 (.tmp 1), .some 23)), (.some (22, .true), (.load none (.tmp 23), .some 24)), (.some (22, .true), (.bin .leq (.tmp 24) (.const (.int .i64 1048576)), .some 25)), (none, (.pick (.tmp 22) (.tmp 25) (.const (.bool .false)), .some 26)), (none, (.mov (.tmp 26), .some 2))] []) .ret)
theorem b26 : Try.f26.body.bind (compC Try.prog) = some c26 := by kernel_rfl
theorem r26 : compR Try.prog Try.f26 = .some [.tmp 2] := by kernel_rfl
theorem n26 : (Try.f26.name == "runtime.NumGoroutine") = false := by kernel_rfl
def c32 : C := .seq
  (.reg [(none, (.mov (.const (.slice none 0 0)), .some 2)), (none, (.mov (.const (.int .i64 0)), .some 3))] []) (.seq (.seq
  (.reg [(none, (.mov (.tmp 0), .some 5)), (none, (.call (.func 76) [.tmp 5], .some 6)), (none, (.mov (.tmp 6), .some 4))] []) (.seq
  (.reg [(none, (.mov (.tmp 4), .some 7)), (none, (.bin .neq (.tmp 7) (.const (.int .i64 0)), .some 8))] []) (.cond (.tmp 8) (.seq
  (.reg [(none, (.mov (.tmp 4), .some 9)), (none, (.mov (.const (.slice none 0 0)), .some 2)), (none, (.mov (.tmp 9), .some 3))] []) .ret) .skip))) (.seq
  (.reg [(none, (.bsl 1 [], .some 10)), (none, (.mov (.tmp 0), .some 11)), (none, (.nilc (.tmp 11), .some 12)), (none, (.fadr 1 (.tmp 12), .some 13)), (none, (.load none (.tmp 13), .some 14)), (none, (.app 1 1 (.tmp 10) (.tmp 14), .some 15)), (none, (.mov (.tmp 15), .some 2)), (none, (.mov (.const (.int .i64 0)), .some 3))] []) .ret))
theorem b32 : Try.f32.body.bind (compC Try.prog) = some c32 := by kernel_rfl
theorem r32 : compR Try.prog Try.f32 = .some [.tmp 2, .tmp 3] := by kernel_rfl
theorem n32 : (Try.f32.name == "runtime.NumGoroutine") = false := by kernel_rfl
def c36 : C := .seq
  (.reg [(none, (.mov (.const (.int .i64 0)), .some 2))] []) (.seq
  (.reg [(none, (.mov (.tmp 0), .some 3)), (none, (.call (.func 35) [.tmp 3], .some 4)), (none, (.mov (.tmp 4), .some 2))] []) .ret)
theorem b36 : Try.f36.body.bind (compC Try.prog) = some c36 := by kernel_rfl
theorem r36 : compR Try.prog Try.f36 = .some [.tmp 2] := by kernel_rfl
theorem n36 : (Try.f36.name == "runtime.NumGoroutine") = false := by kernel_rfl
def c39 : C := .seq
  (.reg [(none, (.box (.tmp 0), .some 1)), (none, (.mov (.const (.bool .false)), .some 2))] []) (.seq
  (.reg [(none, (.load (.some 3) (.tmp 1), .some 3)), (none, (.call (.func 25) [.tmp 3], .some 4)), (none, (.mov (.tmp 4), .some 5)), (.some (5, .false), (.load (.some 3) (.tmp 1), .some 6)), (.some (5, .false), (.call (.func 26) [.tmp 6], .some 7)), (none, (.pick (.tmp 5) (.const (.bool .true)) (.tmp 7), .some 8)), (none, (.mov (.tmp 8), .some 2))] []) .ret)
theorem b39 : Try.f39.body.bind (compC Try.prog) = some c39 := by kernel_rfl
theorem r39 : compR Try.prog Try.f39 = .some [.tmp 2] := by kernel_rfl
theorem n39 : (Try.f39.name == "runtime.NumGoroutine") = false := by kernel_rfl
def c42 : C := .seq
  (.reg [(none, (.mov (.const (.slice none 0 0)), .some 2))] []) (.seq
  (.reg [(none, (.mov (.const (.slice none 0 0)), .some 3))] []) (.seq (.seq
  (.reg [(none, (.mov (.const (.int .i64 0)), .some 4))] []) (.block 0 (.loop (.seq (.seq
  (.reg [(none, (.mov (.tmp 4), .some 5)), (none, (.mov (.tmp 0), .some 6)), (none, (.len .false (.tmp 6), .some 7)), (none, (.bin .lss (.tmp 5) (.tmp 7), .some 8))] []) (.cond (.tmp 8) .skip (.exit 0))) (.seq (.block 1 (.seq
  (.reg [(none, (.mov (.tmp 0), .some 11)), (none, (.mov (.tmp 4), .some 12)), (none, (.iadr 3 (.tmp 11) (.tmp 12), .some 13)), (none, (.load (.some 3) (.tmp 13), .some 14)), (none, (.call (.func 25) [.tmp 14], .some 15))] []) (.cond (.tmp 15) (.seq
  (.reg [(none, (.mov (.tmp 3), .some 16)), (none, (.mov (.tmp 0), .some 17)), (none, (.mov (.tmp 4), .some 18)), (none, (.iadr 3 (.tmp 17) (.tmp 18), .some 19)), (none, (.fadr 0 (.tmp 19), .some 20)), (none, (.load none (.tmp 20), .some 21)), (none, (.len .false (.tmp 21), .some 22)), (none, (.bin .mul (.const (.int .i64 2)) (.tmp 22), .some 23)), (none, (.bin .sub (.tmp 23) (.const (.int .i64 2)), .some 24)), (none, (.cvt .u64 (.tmp 24), .some 25)), (none, (.call (.func 33) [.tmp 25], .some 26)), (none, (.app 1 1 (.tmp 16) (.tmp 26), .some 27)), (none, (.mov (.tmp 27), .some 3))] [])
  (.reg [(none, (.mov (.tmp 3), .some 28)), (none, (.mov (.tmp 0), .some 29)), (none, (.mov (.tmp 4), .some 30)), (none, (.iadr 3 (.tmp 29) (.tmp 30), .some 31)), (none, (.fadr 0 (.tmp 31), .some 32)), (none, (.load none (.tmp 32), .some 33)), (none, (.app 1 1 (.tmp 28) (.tmp 33), .some 34)), (none, (.mov (.tmp 34), .some 3))] [])) (.seq
  (.reg [(none, (.mov (.tmp 3), .some 35)), (none, (.mov (.tmp 0), .some 36)), (none, (.mov (.tmp 4), .some 37)), (none, (.iadr 3 (.tmp 36) (.tmp 37), .some 38)), (none, (.fadr 2 (.tmp 38), .some 39)), (none, (.load none (.tmp 39), .some 40)), (none, (.bin .mul (.const (.int .i64 2)) (.tmp 40), .some 41)), (none, (.bin .sub (.tmp 41) (.const (.int .i64 7)), .some 42)), (none, (.cvt .u64 (.tmp 42), .some 43)), (none, (.call (.func 33) [.tmp 43], .some 44)), (none, (.app 1 1 (.tmp 35) (.tmp 44), .some 45)), (none, (.mov (.tmp 45), .some 3))] [])
  (.reg [(none, (.mov (.tmp 3), .some 46)), (none, (.mov (.tmp 0), .some 47)), (none, (.mov (.tmp 4), .some 48)), (none, (.iadr 3 (.tmp 47) (.tmp 48), .some 49)), (none, (.fadr 1 (.tmp 49), .some 50)), (none, (.load none (.tmp 50), .some 51)), (none, (.bin .sub (.tmp 51) (.const (.int .i64 1)), .some 52)), (none, (.cvt .u64 (.tmp 52), .some 53)), (none, (.call (.func 33) [.tmp 53], .some 54)), (none, (.app 1 1 (.tmp 46) (.tmp 54), .some 55)), (none, (.mov (.tmp 55), .some 3))] [])))))
  (.reg [(none, (.mov (.tmp 4), .some 9)), (none, (.bin .add (.tmp 9) (.const (.int .i64 1)), .some 10)), (none, (.mov (.tmp 10), .some 4))] [])))))) (.seq
  (.reg [(none, (.mov (.tmp 3), .some 56)), (none, (.mov (.tmp 56), .some 2))] []) .ret)))
theorem b42 : Try.f42.body.bind (compC Try.prog) = some c42 := by kernel_rfl
theorem r42 : compR Try.prog Try.f42 = .some [.tmp 2] := by kernel_rfl
theorem n42 : (Try.f42.name == "runtime.NumGoroutine") = false := by kernel_rfl
def c45 : C := .seq
  (.reg [(none, (.mov (.const (.bool .false)), .some 4))] []) (.seq
  (.reg [(none, (.mov (.tmp 0), .some 5)), (none, (.mov (.tmp 1), .some 6)), (none, (.call (.func 88) [.tmp 5, .tmp 6, .func 89], .some 7)), (none, (.mov (.tmp 7), .some 4))] []) .ret)
theorem b45 : Try.f45.body.bind (compC Try.prog) = some c45 := by kernel_rfl
theorem r45 : compR Try.prog Try.f45 = .some [.tmp 4] := by kernel_rfl
theorem n45 : (Try.f45.name == "runtime.NumGoroutine") = false := by kernel_rfl
def c46 : C := .seq
  (.reg [(none, (.mov (.const (.bool .false)), .some 4))] []) (.seq (.seq
  (.reg [(none, (.mov (.tmp 0), .some 6)), (none, (.len .false (.tmp 6), .some 7)), (none, (.mov (.tmp 1), .some 8)), (none, (.len .false (.tmp 8), .some 9)), (none, (.bin .neq (.tmp 7) (.tmp 9), .some 10))] []) (.cond (.tmp 10) (.seq
  (.reg [(none, (.mov (.const (.bool .false)), .some 4))] []) .ret) .skip)) (.seq (.seq
  (.reg [(none, (.mov (.const (.int .i64 0)), .some 5))] []) (.block 0 (.loop (.seq (.seq
  (.reg [(none, (.mov (.tmp 5), .some 11)), (none, (.mov (.tmp 0), .some 12)), (none, (.len .false (.tmp 12), .some 13)), (none, (.bin .lss (.tmp 11) (.tmp 13), .some 14))] []) (.cond (.tmp 14) .skip (.exit 0))) (.seq (.block 1 (.seq
  (.reg [(none, (.mov (.tmp 0), .some 17)), (none, (.mov (.tmp 5), .some 18)), (none, (.iadr 3 (.tmp 17) (.tmp 18), .some 19)), (none, (.fadr 1 (.tmp 19), .some 20)), (none, (.load none (.tmp 20), .some 21)), (none, (.mov (.tmp 1), .some 22)), (none, (.mov (.tmp 5), .some 23)), (none, (.iadr 3 (.tmp 22) (.tmp 23), .some 24)), (none, (.fadr 1 (.tmp 24), .some 25)), (none, (.load none (.tmp 25), .some 26)), (none, (.bin .neq (.tmp 21) (.tmp 26), .some 27)), (none, (.mov (.tmp 27), .some 28)), (.some (28, .false), (.mov (.tmp 0), .some 29)), (.some (28, .false), (.mov (.tmp 5), .some 30)), (.some (28, .false), (.iadr 3 (.tmp 29) (.tmp 30), .some 31)), (.some (28, .false), (.fadr 2 (.tmp 31), .some 32)), (.some (28, .false), (.load none (.tmp 32), .some 33)), (.some (28, .false), (.mov (.tmp 1), .some 34)), (.some (28, .false), (.mov (.tmp 5), .some 35)), (.some (28, .false), (.iadr 3 (.tmp 34) (.tmp 35), .some 36)), (.some (28, .false), (.fadr 2 (.tmp 36), .some 37)), (.some (28, .false), (.load none (.tmp 37), .some 38)), (.some (28, .false), (.bin .neq (.tmp 33) (.tmp 38), .some 39)), (none, (.pick (.tmp 28) (.const (.bool .true)) (.tmp 39), .some 40)), (none, (.mov (.tmp 40), .some 41)), (.some (41, .false), (.mov (.tmp 0), .some 42)), (.some (41, .false), (.mov (.tmp 5), .some 43)), (.some (41, .false), (.iadr 3 (.tmp 42) (.tmp 43), .some 44)), (.some (41, .false), (.fadr 0 (.tmp 44), .some 45)), (.some (41, .false), (.load none (.tmp 45), .some 46)), (.some (41, .false), (.mov (.tmp 1), .some 47)), (.some (41, .false), (.mov (.tmp 5), .some 48)), (.some (41, .false), (.iadr 3 (.tmp 47) (.tmp 48), .some 49)), (.some (41, .false), (.fadr 0 (.tmp 49), .some 50)), (.some (41, .false), (.load none (.tmp 50), .some 51)), (.some (41, .false), (.call (.func 21) [.tmp 46, .tmp 51], .some 52)), (.some (41, .false), (.un .not (.tmp 52), .some 53)), (none, (.pick (.tmp 41) (.const (.bool .true)) (.tmp 53), .some 54))] [(4, 9), (16, 21), (29, 34)]) (.cond (.tmp 54) (.seq
  (.reg [(none, (.mov (.const (.bool .false)), .some 4))] []) .ret) .skip)))
  (.reg [(none, (.mov (.tmp 5), .some 15)), (none, (.bin .add (.tmp 15) (.const (.int .i64 1)), .some 16)), (none, (.mov (.tmp 16), .some 5))] [])))))) (.seq
  (.reg [(none, (.mov (.const (.bool .true)), .some 4))] []) .ret)))
theorem b46 : Try.f46.body.bind (compC Try.prog) = some c46 := by kernel_rfl
theorem r46 : compR Try.prog Try.f46 = .some [.tmp 4] := by kernel_rfl
theorem n46 : (Try.f46.name == "runtime.NumGoroutine") = false := by kernel_rfl
def c49 : C := .seq
  (.reg [(none, (.mov (.const (.int .i64 0)), .some 2)), (none, (.new [.int .i64 0, .int .i64 0], .some 3))] []) (.seq
  (.reg [(none, (.mov (.tmp 0), .some 8)), (none, (.call (.func 53) [.tmp 8], .some 9)), (none, (.mov (.tmp 9), .some 4))] []) (.seq
  (.reg [(none, (.mov (.const (.int .i64 0)), .some 5))] []) (.seq (.block 0 (.loop (.seq (.seq
  (.reg [(none, (.mov (.tmp 4), .some 10)), (none, (.call (.func 60) [.tmp 10], .some 11)), (none, (.mov (.tmp 11), .some 12)), (.some (12, .true), (.mov (.tmp 4), .some 13)), (.some (12, .true), (.call (.func 91) [.tmp 13], .some 14)), (.some (12, .true), (.bin .gtr (.tmp 14) (.const (.int .i64 0)), .some 15)), (none, (.pick (.tmp 12) (.tmp 15) (.const (.bool .false)), .some 16))] []) (.cond (.tmp 16) .skip (.exit 0))) (.block 1 (.seq
  (.reg [(none, (.mov (.tmp 4), .some 17)), (none, (.call (.func 57) [.tmp 17], .some 18)), (none, (.mov (.tmp 18), .some 6))] []) (.seq
  (.reg [(none, (.mov (.tmp 5), .some 19)), (none, (.mov (.tmp 4), .some 20)), (none, (.call (.func 54) [.tmp 20], .some 21)), (none, (.call (.func 40) [.tmp 21], .some 22)), (none, (.bin .add (.tmp 19) (.tmp 22), .some 23)), (none, (.mov (.tmp 23), .some 5))] []) (.seq
  (.reg [(none, (.mov (.tmp 5), .some 24)), (none, (.bin .gtr (.tmp 24) (.const (.int .i64 1099511627776)), .some 25))] []) (.cond (.tmp 25)
  (.reg [(none, (.mov (.tmp 4), .some 26)), (none, (.mov (.tmp 6), .some 27)), (none, (.call (.func 92) [.tmp 26, .const (.int .i64 2), .tmp 27], .some 28))] []) .skip)))))))) (.seq (.seq
  (.reg [(none, (.mov (.tmp 4), .some 29)), (none, (.call (.func 56) [.tmp 29], .some 30)), (none, (.new [.int .i64 0, .int .i64 0], .some 7)), (none, (.store 2 (.tmp 7) (.tmp 30), none))] []) (.seq
  (.reg [(none, (.load (.some 2) (.tmp 7), .some 31)), (none, (.call (.func 94) [.tmp 31], .some 32)), (none, (.un .not (.tmp 32), .some 33))] []) (.cond (.tmp 33) (.seq
  (.reg [(none, (.load (.some 2) (.tmp 7), .some 34)), (none, (.mov (.const (.int .i64 0)), .some 2)), (none, (.store 2 (.tmp 3) (.tmp 34), none))] []) .ret) .skip))) (.seq
  (.reg [(none, (.mov (.tmp 5), .some 35)), (none, (.build [.int .i64 0, .int .i64 0] [], .some 36)), (none, (.mov (.tmp 35), .some 2)), (none, (.store 2 (.tmp 3) (.tmp 36), none))] []) .ret)))))
theorem b49 : Try.f49.body.bind (compC Try.prog) = some c49 := by kernel_rfl
theorem r49 : compR Try.prog Try.f49 = .some [.tmp 2, .cell 3 (.some 2)] := by kernel_rfl
theorem n49 : (Try.f49.name == "runtime.NumGoroutine") = false := by kernel_rfl
def c50 : C := .seq
  (.reg [(none, (.mov (.const (.int .i64 0)), .some 2)), (none, (.new [.int .i64 0, .int .i64 0], .some 3))] []) (.seq
  (.reg [(none, (.mov (.tmp 0), .some 8)), (none, (.build [.slice none 0 0, .int .i64 0, .int .i64 0, .int .i64 0] [(0, (1, .tmp 8))], .some 9)), (none, (.new [.slice none 0 0, .int .i64 0, .int .i64 0, .int .i64 0], .some 4)), (none, (.store 4 (.tmp 4) (.tmp 9), none)), (none, (.mov (.const (.int .i64 0)), .some 5))] []) (.seq (.block 0 (.loop (.seq (.seq
  (.reg [(none, (.fadr 1 (.tmp 4), .some 10)), (none, (.load none (.tmp 10), .some 11)), (none, (.mov (.tmp 0), .some 12)), (none, (.len .false (.tmp 12), .some 13)), (none, (.bin .lss (.tmp 11) (.tmp 13), .some 14))] []) (.cond (.tmp 14) .skip (.exit 0))) (.block 1 (.seq
  (.reg [(none, (.load (.some 4) (.tmp 4), .some 16)), (none, (.call (.func 55) [.tmp 16], .some 17)), (none, (.mov (.tmp 17), .some 15)), (none, (.ext (.tmp 15) 0, .some 18)), (none, (.ext (.tmp 15) 1, .some 19)), (none, (.new [.slice none 0 0, .int .i64 0, .int .i64 0, .int .i64 0], .some 6)), (none, (.new [.slice none 0 0, .int .i64 0, .int .i64 0], .some 7)), (none, (.store 4 (.tmp 6) (.tmp 18), none)), (none, (.store 3 (.tmp 7) (.tmp 19), none))] []) (.seq (.seq
  (.reg [(none, (.fadr 2 (.tmp 6), .some 20)), (none, (.fadr 0 (.tmp 20), .some 21)), (none, (.load none (.tmp 21), .some 22)), (none, (.bin .neq (.tmp 22) (.const (.int .i64 0)), .some 23))] []) (.cond (.tmp 23) (.seq
  (.reg [(none, (.fadr 2 (.tmp 6), .some 24)), (none, (.load (.some 2) (.tmp 24), .some 25)), (none, (.mov (.const (.int .i64 0)), .some 2)), (none, (.store 2 (.tmp 3) (.tmp 25), none))] []) .ret) .skip)) (.seq
  (.reg [(none, (.mov (.tmp 5), .some 26)), (none, (.load (.some 3) (.tmp 7), .some 27)), (none, (.call (.func 22) [.tmp 27], .some 28)), (none, (.bin .add (.tmp 26) (.tmp 28), .some 29)), (none, (.mov (.tmp 29), .some 5))] []) (.seq (.seq
  (.reg [(none, (.mov (.tmp 5), .some 30)), (none, (.bin .gtr (.tmp 30) (.const (.int .i64 1099511627776)), .some 31))] []) (.cond (.tmp 31) (.seq
  (.reg [(none, (.fadr 1 (.tmp 4), .some 32)), (none, (.load none (.tmp 32), .some 33)), (none, (.call (.func 73) [.const (.int .i64 2), .tmp 33], .some 34)), (none, (.mov (.const (.int .i64 0)), .some 2)), (none, (.store 2 (.tmp 3) (.tmp 34), none))] []) .ret) .skip))
  (.reg [(none, (.load (.some 4) (.tmp 6), .some 35)), (none, (.store 4 (.tmp 4) (.tmp 35), none))] []))))))))) (.seq
  (.reg [(none, (.mov (.tmp 5), .some 36)), (none, (.build [.int .i64 0, .int .i64 0] [], .some 37)), (none, (.mov (.tmp 36), .some 2)), (none, (.store 2 (.tmp 3) (.tmp 37), none))] []) .ret)))
theorem b50 : Try.f50.body.bind (compC Try.prog) = some c50 := by kernel_rfl
theorem r50 : compR Try.prog Try.f50 = .some [.tmp 2, .cell 3 (.some 2)] := by kernel_rfl
theorem n50 : (Try.f50.name == "runtime.NumGoroutine") = false := by kernel_rfl
def c59 : C := .seq
  (.reg [(none, (.mov (.const (.int .i64 0)), .some 2))] []) (.seq
  (.reg [(none, (.mov (.tmp 0), .some 5)), (none, (.call (.func 57) [.tmp 5], .some 6)), (none, (.mov (.tmp 6), .some 3))] []) (.seq
  (.reg [(none, (.mov (.tmp 0), .some 7)), (none, (.call (.func 99) [.tmp 7], .some 8)), (none, (.mov (.tmp 8), .some 4))] []) (.seq (.seq
  (.reg [(none, (.mov (.tmp 4), .some 9)), (none, (.bin .geq (.tmp 9) (.const (.int .u64 65536)), .some 10))] []) (.cond (.tmp 10)
  (.reg [(none, (.mov (.tmp 0), .some 11)), (none, (.mov (.tmp 3), .some 12)), (none, (.call (.func 92) [.tmp 11, .const (.int .i64 10), .tmp 12], .some 13))] []) .skip)) (.seq (.seq
  (.reg [(none, (.mov (.tmp 0), .some 14)), (none, (.call (.func 60) [.tmp 14], .some 15)), (none, (.un .not (.tmp 15), .some 16))] []) (.cond (.tmp 16) (.seq
  (.reg [(none, (.mov (.const (.int .i64 0)), .some 2))] []) .ret) .skip)) (.seq
  (.reg [(none, (.mov (.tmp 4), .some 17)), (none, (.cvt .i64 (.tmp 17), .some 18)), (none, (.bin .add (.tmp 18) (.const (.int .i64 1)), .some 19)), (none, (.mov (.tmp 19), .some 2))] []) .ret)))))
theorem b59 : Try.f59.body.bind (compC Try.prog) = some c59 := by kernel_rfl
theorem r59 : compR Try.prog Try.f59 = .some [.tmp 2] := by kernel_rfl
theorem n59 : (Try.f59.name == "runtime.NumGoroutine") = false := by kernel_rfl
def c63 : C := .seq
  (.reg [(none, (.mov (.const (.slice none 0 0)), .some 4))] []) (.seq
  (.reg [(none, (.mov (.tmp 0), .some 8)), (none, (.mov (.tmp 1), .some 9)), (none, (.call (.func 101) [.tmp 9], .some 10)), (none, (.call (.func 100) [.tmp 8, .tmp 10], .some 11)), (none, (.mov (.tmp 11), .some 5))] []) (.seq
  (.reg [(none, (.mov (.tmp 0), .some 12)), (none, (.call (.func 57) [.tmp 12], .some 13)), (none, (.mov (.tmp 13), .some 6))] []) (.seq
  (.reg [(none, (.mov (.tmp 0), .some 14)), (none, (.call (.func 102) [.tmp 14, .const (.int .i64 4)], .some 15)), (none, (.mov (.tmp 15), .some 7))] []) (.seq
  (.reg [(none, (.mov (.tmp 5), .some 16)), (none, (.mov (.tmp 7), .some 17)), (none, (.mov (.tmp 0), .some 18)), (none, (.mkf 92 [.tmp 18] [], .some 19)), (none, (.mov (.tmp 6), .some 20)), (none, (.call (.func 103) [.tmp 16, .tmp 17, .tmp 19, .tmp 20], .some 21))] []) (.seq (.seq
  (.reg [(none, (.mov (.tmp 0), .some 22)), (none, (.call (.func 60) [.tmp 22], .some 23)), (none, (.un .not (.tmp 23), .some 24))] []) (.cond (.tmp 24) (.seq
  (.reg [(none, (.mov (.const (.slice none 0 0)), .some 4))] []) .ret) .skip)) (.seq
  (.reg [(none, (.mov (.tmp 5), .some 25)), (none, (.mov (.tmp 25), .some 4))] []) .ret))))))
theorem b63 : Try.f63.body.bind (compC Try.prog) = some c63 := by kernel_rfl
theorem r63 : compR Try.prog Try.f63 = .some [.tmp 4] := by kernel_rfl
theorem n63 : (Try.f63.name == "runtime.NumGoroutine") = false := by kernel_rfl
def c71 : C := .seq
  (.reg [(none, (.new [.int .i64 0, .int .i64 0], .some 4))] []) (.seq (.seq
  (.reg [(none, (.mov (.tmp 0), .some 5)), (none, (.bin .eql (.tmp 5) (.const (.int .i64 0)), .some 6))] []) (.cond (.tmp 6) (.seq
  (.reg [(none, (.build [.int .i64 0, .int .i64 0] [], .some 7)), (none, (.store 2 (.tmp 4) (.tmp 7), none))] []) .ret) .skip)) (.seq
  (.reg [(none, (.mov (.tmp 0), .some 8)), (none, (.mov (.tmp 1), .some 9)), (none, (.build [.int .i64 0, .int .i64 0] [(0, (1, .tmp 8)), (1, (1, .tmp 9))], .some 10)), (none, (.store 2 (.tmp 4) (.tmp 10), none))] []) .ret))
theorem b71 : Try.f71.body.bind (compC Try.prog) = some c71 := by kernel_rfl
theorem r71 : compR Try.prog Try.f71 = .some [.cell 4 (.some 2)] := by kernel_rfl
theorem n71 : (Try.f71.name == "runtime.NumGoroutine") = false := by kernel_rfl
def c72 : C := .seq
  (.reg [(none, (.mov (.const (.slice none 0 0)), .some 6))] []) (.seq (.seq
  (.reg [(none, (.mov (.tmp 2), .some 7)), (none, (.mov (.const (.int .i64 0)), .some 8))] []) (.block 0 (.loop (.seq
  (.reg [(none, (.bin .lss (.tmp 8) (.tmp 7), .some 9))] []) (.seq (.cond (.tmp 9) .skip (.exit 0)) (.seq (.block 1
  (.reg [(none, (.mov (.tmp 0), .some 10)), (none, (.mov (.tmp 0), .some 11)), (none, (.mov (.tmp 0), .some 12)), (none, (.len .false (.tmp 12), .some 13)), (none, (.mov (.tmp 1), .some 14)), (none, (.bin .sub (.tmp 13) (.tmp 14), .some 15)), (none, (.iadr 1 (.tmp 11) (.tmp 15), .some 16)), (none, (.load none (.tmp 16), .some 17)), (none, (.bsl 1 [.tmp 17], .some 18)), (none, (.app 1 1 (.tmp 10) (.tmp 18), .some 19)), (none, (.mov (.tmp 19), .some 0))] []))
  (.reg [(none, (.bin .add (.tmp 8) (.const (.int .i64 1)), .some 20)), (none, (.mov (.tmp 20), .some 8))] []))))))) (.seq
  (.reg [(none, (.mov (.tmp 0), .some 21)), (none, (.mov (.tmp 21), .some 6))] []) .ret))
theorem b72 : Try.f72.body.bind (compC Try.prog) = some c72 := by kernel_rfl
theorem r72 : compR Try.prog Try.f72 = .some [.tmp 6] := by kernel_rfl
theorem n72 : (Try.f72.name == "runtime.NumGoroutine") = false := by kernel_rfl
def c82 : C := .seq
  (.reg [(none, (.mov (.const (.slice none 0 0)), .some 2))] []) (.seq
  (.reg [(none, (.mov (.tmp 0), .some 3)), (none, (.len .false (.tmp 3), .some 4)), (none, (.cvt .u64 (.tmp 4), .some 5)), (none, (.call (.func 33) [.tmp 5], .some 6)), (none, (.mov (.tmp 0), .some 7)), (none, (.app 1 1 (.tmp 6) (.tmp 7), .some 8)), (none, (.mov (.tmp 8), .some 2))] []) .ret)
theorem b82 : Try.f82.body.bind (compC Try.prog) = some c82 := by kernel_rfl
theorem r82 : compR Try.prog Try.f82 = .some [.tmp 2] := by kernel_rfl
theorem n82 : (Try.f82.name == "runtime.NumGoroutine") = false := by kernel_rfl
def c83 : C := .seq
  (.reg [(none, (.mov (.const (.slice none 0 0)), .some 4))] []) (.seq
  (.reg [(none, (.mov (.const (.slice none 0 0)), .some 5))] []) (.seq (.seq
  (.reg [(none, (.mov (.const (.int .i64 0)), .some 6))] []) (.block 0 (.loop (.seq (.seq
  (.reg [(none, (.mov (.tmp 6), .some 7)), (none, (.mov (.tmp 1), .some 8)), (none, (.bin .lss (.tmp 7) (.tmp 8), .some 9)), (none, (.mov (.tmp 9), .some 10)), (.some (10, .true), (.mov (.tmp 6), .some 11)), (.some (10, .true), (.bin .lss (.tmp 11) (.const (.int .i64 8)), .some 12)), (none, (.pick (.tmp 10) (.tmp 12) (.const (.bool .false)), .some 13))] []) (.cond (.tmp 13) .skip (.exit 0))) (.seq (.block 1
  (.reg [(none, (.mov (.tmp 5), .some 16)), (none, (.mov (.tmp 0), .some 17)), (none, (.mov (.tmp 6), .some 18)), (none, (.bin .mul (.const (.int .i64 8)) (.tmp 18), .some 19)), (none, (.cvt .u64 (.tmp 19), .some 20)), (none, (.bin .shr (.tmp 17) (.tmp 20), .some 21)), (none, (.cvt .u8 (.tmp 21), .some 22)), (none, (.bsl 1 [.tmp 22], .some 23)), (none, (.app 1 1 (.tmp 16) (.tmp 23), .some 24)), (none, (.mov (.tmp 24), .some 5))] []))
  (.reg [(none, (.mov (.tmp 6), .some 14)), (none, (.bin .add (.tmp 14) (.const (.int .i64 1)), .some 15)), (none, (.mov (.tmp 15), .some 6))] [])))))) (.seq
  (.reg [(none, (.mov (.tmp 5), .some 25)), (none, (.mov (.tmp 25), .some 4))] []) .ret)))
theorem b83 : Try.f83.body.bind (compC Try.prog) = some c83 := by kernel_rfl
theorem r83 : compR Try.prog Try.f83 = .some [.tmp 4] := by kernel_rfl
theorem n83 : (Try.f83.name == "runtime.NumGoroutine") = false := by kernel_rfl
def c84 : C := .seq
  (.reg [(none, (.mov (.const (.int .u32 0)), .some 2))] []) (.seq
  (.reg [(none, (.mov (.tmp 0), .some 3)), (none, (.call (.func 112) [.const (.int .u32 4294967295), .tmp 3], .some 4)), (none, (.bin .sub (.const (.int .u32 4294967295)) (.tmp 4), .some 5)), (none, (.mov (.tmp 5), .some 2))] []) .ret)
theorem b84 : Try.f84.body.bind (compC Try.prog) = some c84 := by kernel_rfl
theorem r84 : compR Try.prog Try.f84 = .some [.tmp 2] := by kernel_rfl
theorem n84 : (Try.f84.name == "runtime.NumGoroutine") = false := by kernel_rfl
def c91 : C := .seq
  (.reg [(none, (.mov (.const (.int .i64 0)), .some 2))] []) (.seq (.seq
  (.reg [(none, (.mov (.tmp 0), .some 3)), (none, (.eqp .false (.tmp 3) (.const (.pointer none)), .some 4))] []) (.cond (.tmp 4) (.seq
  (.reg [(none, (.mov (.const (.int .i64 0)), .some 2))] []) .ret) .skip)) (.seq
  (.reg [(none, (.mov (.tmp 0), .some 5)), (none, (.nilc (.tmp 5), .some 6)), (none, (.fadr 0 (.tmp 6), .some 7)), (none, (.load none (.tmp 7), .some 8)), (none, (.len .false (.tmp 8), .some 9)), (none, (.mov (.tmp 0), .some 10)), (none, (.nilc (.tmp 10), .some 11)), (none, (.fadr 1 (.tmp 11), .some 12)), (none, (.load none (.tmp 12), .some 13)), (none, (.bin .sub (.tmp 9) (.tmp 13), .some 14)), (none, (.mov (.tmp 14), .some 2))] [(3, 8)]) .ret))
theorem b91 : Try.f91.body.bind (compC Try.prog) = some c91 := by kernel_rfl
theorem r91 : compR Try.prog Try.f91 = .some [.tmp 2] := by kernel_rfl
theorem n91 : (Try.f91.name == "runtime.NumGoroutine") = false := by kernel_rfl
def c92 : C := .seq
  (.reg [(none, (.mov (.tmp 0), .some 6)), (none, (.call (.func 60) [.tmp 6], .some 7))] []) (.cond (.tmp 7)
  (.reg [(none, (.mov (.tmp 0), .some 8)), (none, (.mov (.tmp 1), .some 9)), (none, (.mov (.tmp 2), .some 10)), (none, (.call (.func 71) [.tmp 9, .tmp 10], .some 11)), (none, (.nilc (.tmp 8), .some 12)), (none, (.fadr 2 (.tmp 12), .some 13)), (none, (.store 2 (.tmp 13) (.tmp 11), none))] []) .skip)
theorem b92 : Try.f92.body.bind (compC Try.prog) = some c92 := by kernel_rfl
theorem r92 : compR Try.prog Try.f92 = .some [] := by kernel_rfl
theorem n92 : (Try.f92.name == "runtime.NumGoroutine") = false := by kernel_rfl
def c95 : C := .seq
  (.reg [(none, (.box (.tmp 0), .some 1)), (none, (.new [.slice none 0 0, .int .i64 0, .int .i64 0, .int .i64 0], .some 2)), (none, (.mov (.const (.int .u64 0)), .some 3))] []) (.seq (.seq
  (.reg [(none, (.fadr 2 (.tmp 1), .some 7)), (none, (.fadr 0 (.tmp 7), .some 8)), (none, (.load none (.tmp 8), .some 9)), (none, (.bin .neq (.tmp 9) (.const (.int .i64 0)), .some 10))] []) (.cond (.tmp 10) (.seq
  (.reg [(none, (.load (.some 4) (.tmp 1), .some 11)), (none, (.store 4 (.tmp 2) (.tmp 11), none)), (none, (.mov (.const (.int .u64 0)), .some 3))] []) .ret) .skip)) (.seq
  (.reg [(none, (.fadr 0 (.tmp 1), .some 13)), (none, (.load none (.tmp 13), .some 14)), (none, (.fadr 1 (.tmp 1), .some 15)), (none, (.load none (.tmp 15), .some 16)), (none, (.slice 1 (.tmp 14) (.some (.tmp 16)) none none, .some 17)), (none, (.call (.func 116) [.tmp 17], .some 18)), (none, (.mov (.tmp 18), .some 12)), (none, (.ext (.tmp 12) 0, .some 19)), (none, (.ext (.tmp 12) 1, .some 20)), (none, (.ext (.tmp 12) 2, .some 21)), (none, (.new [.int .i64 0, .int .i64 0], .some 6)), (none, (.mov (.tmp 19), .some 4)), (none, (.mov (.tmp 20), .some 5)), (none, (.store 2 (.tmp 6) (.tmp 21), none))] []) (.seq (.seq
  (.reg [(none, (.fadr 0 (.tmp 6), .some 22)), (none, (.load none (.tmp 22), .some 23)), (none, (.bin .eql (.tmp 23) (.const (.int .i64 0)), .some 24))] []) (.cond (.tmp 24) (.seq
  (.reg [(none, (.fadr 1 (.tmp 1), .some 25)), (none, (.load none (.tmp 25), .some 26)), (none, (.mov (.tmp 5), .some 27)), (none, (.bin .add (.tmp 26) (.tmp 27), .some 28)), (none, (.fadr 1 (.tmp 1), .some 29)), (none, (.store 1 (.tmp 29) (.tmp 28), none))] []) (.seq
  (.reg [(none, (.load (.some 4) (.tmp 1), .some 30)), (none, (.mov (.tmp 4), .some 31)), (none, (.store 4 (.tmp 2) (.tmp 30), none)), (none, (.mov (.tmp 31), .some 3))] []) .ret)) .skip)) (.seq (.seq
  (.reg [(none, (.fadr 0 (.tmp 6), .some 32)), (none, (.load none (.tmp 32), .some 33)), (none, (.bin .eql (.tmp 33) (.const (.int .i64 1)), .some 34))] []) (.cond (.tmp 34)
  (.reg [(none, (.fadr 0 (.tmp 1), .some 35)), (none, (.load none (.tmp 35), .some 36)), (none, (.len .false (.tmp 36), .some 37)), (none, (.fadr 1 (.tmp 1), .some 38)), (none, (.store 1 (.tmp 38) (.tmp 37), none))] [])
  (.reg [(none, (.fadr 1 (.tmp 1), .some 39)), (none, (.load none (.tmp 39), .some 40)), (none, (.fadr 1 (.tmp 6), .some 41)), (none, (.load none (.tmp 41), .some 42)), (none, (.bin .add (.tmp 40) (.tmp 42), .some 43)), (none, (.bin .add (.tmp 43) (.const (.int .i64 1)), .some 44)), (none, (.fadr 1 (.tmp 1), .some 45)), (none, (.store 1 (.tmp 45) (.tmp 44), none))] []))) (.seq
  (.reg [(none, (.fadr 0 (.tmp 6), .some 46)), (none, (.load none (.tmp 46), .some 47)), (none, (.fadr 1 (.tmp 1), .some 48)), (none, (.load none (.tmp 48), .some 49)), (none, (.call (.func 73) [.tmp 47, .tmp 49], .some 50)), (none, (.fadr 2 (.tmp 1), .some 51)), (none, (.store 2 (.tmp 51) (.tmp 50), none))] []) (.seq (.seq
  (.reg [(none, (.fadr 0 (.tmp 6), .some 52)), (none, (.load none (.tmp 52), .some 53)), (none, (.bin .neq (.tmp 53) (.const (.int .i64 1)), .some 54))] []) (.cond (.tmp 54)
  (.reg [(none, (.fadr 1 (.tmp 1), .some 55)), (none, (.load none (.tmp 55), .some 56)), (none, (.bin .sub (.tmp 56) (.const (.int .i64 1)), .some 57)), (none, (.fadr 2 (.tmp 1), .some 58)), (none, (.fadr 1 (.tmp 58), .some 59)), (none, (.store 1 (.tmp 59) (.tmp 57), none))] []) .skip)) (.seq
  (.reg [(none, (.load (.some 4) (.tmp 1), .some 60)), (none, (.store 4 (.tmp 2) (.tmp 60), none)), (none, (.mov (.const (.int .u64 0)), .some 3))] []) .ret)))))))
theorem b95 : Try.f95.body.bind (compC Try.prog) = some c95 := by kernel_rfl
theorem r95 : compR Try.prog Try.f95 = .some [.cell 2 (.some 4), .tmp 3] := by kernel_rfl
theorem n95 : (Try.f95.name == "runtime.NumGoroutine") = false := by kernel_rfl
def c96 : C := .seq
  (.reg [(none, (.mov (.const (.int .i64 0)), .some 2))] []) (.seq (.seq
  (.reg [(none, (.mov (.tmp 0), .some 3)), (none, (.bin .rem (.tmp 3) (.const (.int .u64 2)), .some 4)), (none, (.bin .eql (.tmp 4) (.const (.int .u64 0)), .some 5)), (none, (.mov (.tmp 5), .some 6)), (.some (6, .true), (.mov (.tmp 0), .some 7)), (.some (6, .true), (.bin .quo (.tmp 7) (.const (.int .u64 2)), .some 8)), (.some (6, .true), (.bin .lss (.tmp 8) (.const (.int .u64 1048576)), .some 9)), (none, (.pick (.tmp 6) (.tmp 9) (.const (.bool .false)), .some 10))] []) (.cond (.tmp 10) (.seq
  (.reg [(none, (.mov (.tmp 0), .some 11)), (none, (.bin .quo (.tmp 11) (.const (.int .u64 2)), .some 12)), (none, (.cvt .i64 (.tmp 12), .some 13)), (none, (.bin .add (.tmp 13) (.const (.int .i64 1)), .some 14)), (none, (.mov (.tmp 14), .some 2))] []) .ret) .skip)) (.seq (.seq
  (.reg [(none, (.mov (.tmp 0), .some 15)), (none, (.bin .rem (.tmp 15) (.const (.int .u64 2)), .some 16)), (none, (.bin .eql (.tmp 16) (.const (.int .u64 1)), .some 17)), (none, (.mov (.tmp 17), .some 18)), (.some (18, .true), (.mov (.tmp 0), .some 19)), (.some (18, .true), (.bin .quo (.tmp 19) (.const (.int .u64 2)), .some 20)), (.some (18, .true), (.bin .leq (.tmp 20) (.const (.int .u64 1048572)), .some 21)), (none, (.pick (.tmp 18) (.tmp 21) (.const (.bool .false)), .some 22))] []) (.cond (.tmp 22) (.seq
  (.reg [(none, (.mov (.tmp 0), .some 23)), (none, (.bin .quo (.tmp 23) (.const (.int .u64 2)), .some 24)), (none, (.cvt .i64 (.tmp 24), .some 25)), (none, (.bin .add (.tmp 25) (.const (.int .i64 4)), .some 26)), (none, (.mov (.tmp 26), .some 2))] []) .ret) .skip)) (.seq
  (.reg [(none, (.mov (.const (.int .i64 0)), .some 2))] []) .ret)))
theorem b96 : Try.f96.body.bind (compC Try.prog) = some c96 := by kernel_rfl
theorem r96 : compR Try.prog Try.f96 = .some [.tmp 2] := by kernel_rfl
theorem n96 : (Try.f96.name == "runtime.NumGoroutine") = false := by kernel_rfl
def c97 : C := .seq
  (.reg [(none, (.box (.tmp 0), .some 3)), (none, (.new [.slice none 0 0, .int .i64 0, .int .i64 0, .int .i64 0], .some 6))] []) (.seq (.seq
  (.reg [(none, (.fadr 2 (.tmp 3), .some 7)), (none, (.fadr 0 (.tmp 7), .some 8)), (none, (.load none (.tmp 8), .some 9)), (none, (.bin .eql (.tmp 9) (.const (.int .i64 0)), .some 10))] []) (.cond (.tmp 10)
  (.reg [(none, (.mov (.tmp 1), .some 11)), (none, (.mov (.tmp 2), .some 12)), (none, (.call (.func 73) [.tmp 11, .tmp 12], .some 13)), (none, (.fadr 2 (.tmp 3), .some 14)), (none, (.store 2 (.tmp 14) (.tmp 13), none))] []) .skip)) (.seq
  (.reg [(none, (.load (.some 4) (.tmp 3), .some 15)), (none, (.store 4 (.tmp 6) (.tmp 15), none))] []) .ret))
theorem b97 : Try.f97.body.bind (compC Try.prog) = some c97 := by kernel_rfl
theorem r97 : compR Try.prog Try.f97 = .some [.cell 6 (.some 4)] := by kernel_rfl
theorem n97 : (Try.f97.name == "runtime.NumGoroutine") = false := by kernel_rfl
def c108 : C := .seq
  (.reg [(none, (.mov (.const (.slice none 0 0)), .some 4))] []) (.seq
  (.reg [(none, (.mov (.const (.slice none 0 0)), .some 5))] []) (.seq (.seq
  (.reg [(none, (.mov (.tmp 1), .some 6)), (none, (.mx .true (.tmp 6) (.const (.int .i64 0)), .some 7)), (none, (.mx .false (.tmp 7) (.const (.int .i64 8)), .some 8)), (none, (.mov (.const (.int .i64 0)), .some 9))] []) (.block 0 (.loop (.seq
  (.reg [(none, (.bin .lss (.tmp 9) (.tmp 8), .some 10))] []) (.seq (.cond (.tmp 10) .skip (.exit 0)) (.seq (.block 1 (.seq
  (.reg [(none, (.mov (.tmp 5), .some 11)), (none, (.mov (.tmp 0), .some 12)), (none, (.bin .rem (.tmp 12) (.const (.int .u64 256)), .some 13)), (none, (.cvt .u8 (.tmp 13), .some 14)), (none, (.bsl 1 [.tmp 14], .some 15)), (none, (.app 1 1 (.tmp 11) (.tmp 15), .some 16)), (none, (.mov (.tmp 16), .some 5))] [])
  (.reg [(none, (.mov (.tmp 0), .some 17)), (none, (.bin .quo (.tmp 17) (.const (.int .u64 256)), .some 18)), (none, (.mov (.tmp 18), .some 0))] [])))
  (.reg [(none, (.bin .add (.tmp 9) (.const (.int .i64 1)), .some 19)), (none, (.mov (.tmp 19), .some 9))] []))))))) (.seq
  (.reg [(none, (.mov (.tmp 5), .some 20)), (none, (.mov (.tmp 20), .some 4))] []) .ret)))
theorem b108 : Try.f108.body.bind (compC Try.prog) = some c108 := by kernel_rfl
theorem r108 : compR Try.prog Try.f108 = .some [.tmp 4] := by kernel_rfl
theorem n108 : (Try.f108.name == "runtime.NumGoroutine") = false := by kernel_rfl
def c115 : C := .seq
  (.reg [(none, (.mov (.const (.bool .false)), .some 4))] []) (.seq (.block 0 (.seq
  (.reg [(none, (.mov (.tmp 0), .some 6)), (none, (.call (.func 60) [.tmp 6], .some 7)), (none, (.un .not (.tmp 7), .some 8)), (none, (.mov (.tmp 8), .some 5))] []) (.cond (.tmp 5) (.seq
  (.reg [(none, (.mov (.const (.bool .false)), .some 4))] []) .ret) (.seq
  (.reg [(none, (.mov (.tmp 1), .some 10)), (none, (.bin .lss (.tmp 10) (.const (.int .i64 0)), .some 11)), (none, (.mov (.tmp 11), .some 9))] []) (.cond (.tmp 9) (.seq
  (.reg [(none, (.mov (.tmp 0), .some 12)), (none, (.mov (.tmp 0), .some 13)), (none, (.nilc (.tmp 13), .some 14)), (none, (.fadr 1 (.tmp 14), .some 15)), (none, (.load none (.tmp 15), .some 16)), (none, (.call (.func 92) [.tmp 12, .const (.int .i64 17), .tmp 16], .some 17))] []) (.seq
  (.reg [(none, (.mov (.const (.bool .false)), .some 4))] []) .ret)) (.seq
  (.reg [(none, (.mov (.tmp 1), .some 19)), (none, (.mov (.tmp 0), .some 20)), (none, (.call (.func 91) [.tmp 20], .some 21)), (none, (.bin .gtr (.tmp 19) (.tmp 21), .some 22)), (none, (.mov (.tmp 22), .some 18))] []) (.cond (.tmp 18) (.seq
  (.reg [(none, (.mov (.tmp 0), .some 23)), (none, (.mov (.tmp 0), .some 24)), (none, (.nilc (.tmp 24), .some 25)), (none, (.fadr 0 (.tmp 25), .some 26)), (none, (.load none (.tmp 26), .some 27)), (none, (.len .false (.tmp 27), .some 28)), (none, (.call (.func 92) [.tmp 23, .const (.int .i64 1), .tmp 28], .some 29))] []) (.seq
  (.reg [(none, (.mov (.const (.bool .false)), .some 4))] []) .ret)) .skip))))))) (.seq
  (.reg [(none, (.mov (.tmp 0), .some 30)), (none, (.nilc (.tmp 30), .some 31)), (none, (.fadr 1 (.tmp 31), .some 32)), (none, (.load none (.tmp 32), .some 33)), (none, (.mov (.tmp 1), .some 34)), (none, (.bin .add (.tmp 33) (.tmp 34), .some 35)), (none, (.nilc (.tmp 30), .some 36)), (none, (.fadr 1 (.tmp 36), .some 37)), (none, (.store 1 (.tmp 37) (.tmp 35), none))] []) (.seq
  (.reg [(none, (.mov (.const (.bool .true)), .some 4))] []) .ret)))
theorem b115 : Try.f115.body.bind (compC Try.prog) = some c115 := by kernel_rfl
theorem r115 : compR Try.prog Try.f115 = .some [.tmp 4] := by kernel_rfl
theorem n115 : (Try.f115.name == "runtime.NumGoroutine") = false := by kernel_rfl
def c117 : C := .seq
  (.reg [(none, (.mov (.const (.int .u8 0)), .some 2))] []) (.seq (.seq
  (.reg [(none, (.mov (.tmp 0), .some 3)), (none, (.call (.func 115) [.tmp 3, .const (.int .i64 1)], .some 4)), (none, (.un .not (.tmp 4), .some 5))] []) (.cond (.tmp 5) (.seq
  (.reg [(none, (.mov (.const (.int .u8 0)), .some 2))] []) .ret) .skip)) (.seq
  (.reg [(none, (.mov (.tmp 0), .some 6)), (none, (.nilc (.tmp 6), .some 7)), (none, (.fadr 0 (.tmp 7), .some 8)), (none, (.load none (.tmp 8), .some 9)), (none, (.mov (.tmp 0), .some 10)), (none, (.nilc (.tmp 10), .some 11)), (none, (.fadr 1 (.tmp 11), .some 12)), (none, (.load none (.tmp 12), .some 13)), (none, (.bin .sub (.tmp 13) (.const (.int .i64 1)), .some 14)), (none, (.iadr 1 (.tmp 9) (.tmp 14), .some 15)), (none, (.load none (.tmp 15), .some 16)), (none, (.mov (.tmp 16), .some 2))] [(3, 7)]) .ret))
theorem b117 : Try.f117.body.bind (compC Try.prog) = some c117 := by kernel_rfl
theorem r117 : compR Try.prog Try.f117 = .some [.tmp 2] := by kernel_rfl
theorem n117 : (Try.f117.name == "runtime.NumGoroutine") = false := by kernel_rfl
end Go.Proofs.Ytpjkmidjjodplaa
