/-
  The codes of the seat's functions over abstract values, each shown to be its function's own (by program: wip/tools/codes.py).
-/
import Derived.Test.YtkhnfleejgfhgaaA2
import Derived.Test.YtkhnfleejgfhgaaProg
import Derived.KernelRfl
namespace Go.Proofs.Ytkhnfleejgfhgaa
def c37 : C := .seq
  (.reg [(none, (.box (.tmp 0), .some 1)), (none, (.mov (.const (.slice none 0 0)), .some 2))] []) (.seq
  (.reg [(none, (.bsl 1 [.const (.int .u8 3)], .some 6)), (none, (.fadr 0 (.tmp 1), .some 7)), (none, (.load none (.tmp 7), .some 8)), (none, (.call (.func 110) [.tmp 8], .some 9)), (none, (.app 1 1 (.tmp 6) (.tmp 9), .some 10)), (none, (.mov (.tmp 10), .some 3))] []) (.seq
  (.reg [(none, (.fadr 1 (.tmp 1), .some 11)), (none, (.load none (.tmp 11), .some 12)), (none, (.cvt .u64 (.tmp 12), .some 13)), (none, (.fadr 2 (.tmp 1), .some 14)), (none, (.load none (.tmp 14), .some 15)), (none, (.cvt .u64 (.tmp 15), .some 16)), (none, (.fadr 3 (.tmp 1), .some 17)), (none, (.load none (.tmp 17), .some 18)), (none, (.fadr 4 (.tmp 1), .some 19)), (none, (.load none (.tmp 19), .some 20)), (none, (.fadr 5 (.tmp 1), .some 21)), (none, (.load none (.tmp 21), .some 22)), (none, (.cvt .u64 (.tmp 22), .some 23)), (none, (.fadr 6 (.tmp 1), .some 24)), (none, (.load none (.tmp 24), .some 25)), (none, (.cvt .u64 (.tmp 25), .some 26)), (none, (.bsl 1 [.tmp 13, .tmp 16, .tmp 18, .tmp 20, .tmp 23, .tmp 26], .some 27)), (none, (.mov (.tmp 27), .some 4))] []) (.seq (.seq
  (.reg [(none, (.mov (.const (.int .i64 0)), .some 5))] []) (.block 0 (.loop (.seq (.seq
  (.reg [(none, (.mov (.tmp 5), .some 28)), (none, (.mov (.tmp 4), .some 29)), (none, (.len .false (.tmp 29), .some 30)), (none, (.bin .lss (.tmp 28) (.tmp 30), .some 31))] []) (.cond (.tmp 31) .skip (.exit 0))) (.seq (.block 1
  (.reg [(none, (.mov (.tmp 3), .some 34)), (none, (.mov (.tmp 4), .some 35)), (none, (.mov (.tmp 5), .some 36)), (none, (.iadr 1 (.tmp 35) (.tmp 36), .some 37)), (none, (.load none (.tmp 37), .some 38)), (none, (.call (.func 110) [.tmp 38], .some 39)), (none, (.app 1 1 (.tmp 34) (.tmp 39), .some 40)), (none, (.mov (.tmp 40), .some 3))] []))
  (.reg [(none, (.mov (.tmp 5), .some 32)), (none, (.bin .add (.tmp 32) (.const (.int .i64 1)), .some 33)), (none, (.mov (.tmp 33), .some 5))] [])))))) (.seq
  (.reg [(none, (.mov (.tmp 3), .some 41)), (none, (.mov (.tmp 41), .some 2))] []) .ret))))
theorem b37 : Try.f37.body.bind (compC Try.prog) = some c37 := by kernel_rfl
theorem r37 : compR Try.prog Try.f37 = .some [.tmp 2] := by kernel_rfl
theorem n37 : (Try.f37.name == "runtime.NumGoroutine") = false := by kernel_rfl
def c49 : C := .seq
  (.reg [(none, (.mov (.const (.int .i64 0)), .some 2))] []) (.seq (.seq
  (.reg [(none, (.mov (.tmp 0), .some 3)), (none, (.eqp .false (.tmp 3) (.const (.pointer none)), .some 4))] []) (.cond (.tmp 4) (.seq
  (.reg [(none, (.mov (.const (.int .i64 0)), .some 2))] []) .ret) .skip)) (.seq
  (.reg [(none, (.mov (.tmp 0), .some 5)), (none, (.nilc (.tmp 5), .some 6)), (none, (.fadr 1 (.tmp 6), .some 7)), (none, (.load none (.tmp 7), .some 8)), (none, (.mov (.tmp 8), .some 2))] []) .ret))
theorem b49 : Try.f49.body.bind (compC Try.prog) = some c49 := by kernel_rfl
theorem r49 : compR Try.prog Try.f49 = .some [.tmp 2] := by kernel_rfl
theorem n49 : (Try.f49.name == "runtime.NumGoroutine") = false := by kernel_rfl
def c55 : C := .seq
  (.reg [(none, (.mov (.const (.slice none 0 0)), .some 2)), (none, (.mov (.const (.int .i64 0)), .some 3))] []) (.seq (.seq
  (.reg [(none, (.mov (.tmp 0), .some 5)), (none, (.call (.func 130) [.tmp 5], .some 6)), (none, (.mov (.tmp 6), .some 4))] []) (.seq
  (.reg [(none, (.mov (.tmp 4), .some 7)), (none, (.bin .neq (.tmp 7) (.const (.int .i64 0)), .some 8))] []) (.cond (.tmp 8) (.seq
  (.reg [(none, (.mov (.tmp 4), .some 9)), (none, (.mov (.const (.slice none 0 0)), .some 2)), (none, (.mov (.tmp 9), .some 3))] []) .ret) .skip))) (.seq
  (.reg [(none, (.bsl 1 [], .some 10)), (none, (.mov (.tmp 0), .some 11)), (none, (.nilc (.tmp 11), .some 12)), (none, (.fadr 1 (.tmp 12), .some 13)), (none, (.load none (.tmp 13), .some 14)), (none, (.app 1 1 (.tmp 10) (.tmp 14), .some 15)), (none, (.mov (.tmp 15), .some 2)), (none, (.mov (.const (.int .i64 0)), .some 3))] []) .ret))
theorem b55 : Try.f55.body.bind (compC Try.prog) = some c55 := by kernel_rfl
theorem r55 : compR Try.prog Try.f55 = .some [.tmp 2, .tmp 3] := by kernel_rfl
theorem n55 : (Try.f55.name == "runtime.NumGoroutine") = false := by kernel_rfl
def c86 : C := .seq
  (.reg [(none, (.new [.int .u64 0, .int .i64 0, .int .i64 0, .int .u64 0, .int .u64 0, .int .i64 0, .int .i64 0], .some 2)), (none, (.mov (.const (.int .i64 0)), .some 3)), (none, (.new [.int .i64 0, .int .i64 0], .some 4))] []) (.seq
  (.reg [(none, (.mov (.tmp 0), .some 14)), (none, (.len .false (.tmp 14), .some 15)), (none, (.mov (.tmp 15), .some 5))] []) (.seq (.seq
  (.reg [(none, (.mov (.tmp 5), .some 16)), (none, (.bin .lss (.tmp 16) (.const (.int .i64 12)), .some 17))] []) (.cond (.tmp 17) (.seq
  (.reg [(none, (.build [.int .u64 0, .int .i64 0, .int .i64 0, .int .u64 0, .int .u64 0, .int .i64 0, .int .i64 0] [], .some 18)), (none, (.mov (.tmp 5), .some 19)), (none, (.call (.func 156) [.const (.int .i64 1), .tmp 19], .some 20)), (none, (.store 7 (.tmp 2) (.tmp 18), none)), (none, (.mov (.const (.int .i64 0)), .some 3)), (none, (.store 2 (.tmp 4) (.tmp 20), none))] []) .ret) .skip)) (.seq (.seq
  (.reg [(none, (.mov (.tmp 0), .some 21)), (none, (.mov (.tmp 5), .some 22)), (none, (.bin .sub (.tmp 22) (.const (.int .i64 4)), .some 23)), (none, (.slice 1 (.tmp 21) (.some (.tmp 23)) none none, .some 24)), (none, (.b2s (.tmp 24), .some 25)), (none, (.bin .neq (.tmp 25) (.const (.string (.mk (#[76, 79, 72, 84])))), .some 26))] []) (.cond (.tmp 26) (.seq
  (.reg [(none, (.build [.int .u64 0, .int .i64 0, .int .i64 0, .int .u64 0, .int .u64 0, .int .i64 0, .int .i64 0] [], .some 27)), (none, (.mov (.tmp 5), .some 28)), (none, (.bin .sub (.tmp 28) (.const (.int .i64 4)), .some 29)), (none, (.call (.func 156) [.const (.int .i64 14), .tmp 29], .some 30)), (none, (.store 7 (.tmp 2) (.tmp 27), none)), (none, (.mov (.const (.int .i64 0)), .some 3)), (none, (.store 2 (.tmp 4) (.tmp 30), none))] []) .ret) .skip)) (.seq
  (.reg [(none, (.mov (.tmp 0), .some 32)), (none, (.mov (.tmp 5), .some 33)), (none, (.bin .sub (.tmp 33) (.const (.int .i64 8)), .some 34)), (none, (.build [.slice none 0 0, .int .i64 0, .int .i64 0, .int .i64 0] [(0, (1, .tmp 32)), (1, (1, .tmp 34))], .some 35)), (none, (.call (.func 149) [.tmp 35, .const (.int .i64 4)], .some 36)), (none, (.mov (.tmp 36), .some 31)), (none, (.ext (.tmp 31) 0, .some 37)), (none, (.ext (.tmp 31) 1, .some 38)), (none, (.new [.slice none 0 0, .int .i64 0, .int .i64 0, .int .i64 0], .some 6)), (none, (.store 4 (.tmp 6) (.tmp 37), none)), (none, (.mov (.tmp 38), .some 7))] []) (.seq (.seq
  (.reg [(none, (.mov (.tmp 7), .some 39)), (none, (.mov (.tmp 0), .some 40)), (none, (.mov (.tmp 5), .some 41)), (none, (.bin .sub (.tmp 41) (.const (.int .i64 12)), .some 42)), (none, (.mov (.tmp 5), .some 43)), (none, (.bin .sub (.tmp 43) (.const (.int .i64 8)), .some 44)), (none, (.slice 1 (.tmp 40) (.some (.tmp 42)) (.some (.tmp 44)) none, .some 45)), (none, (.call (.func 148) [.tmp 45], .some 46)), (none, (.cvt .u64 (.tmp 46), .some 47)), (none, (.bin .neq (.tmp 39) (.tmp 47), .some 48))] []) (.cond (.tmp 48) (.seq
  (.reg [(none, (.build [.int .u64 0, .int .i64 0, .int .i64 0, .int .u64 0, .int .u64 0, .int .i64 0, .int .i64 0] [], .some 49)), (none, (.mov (.tmp 5), .some 50)), (none, (.bin .sub (.tmp 50) (.const (.int .i64 8)), .some 51)), (none, (.call (.func 156) [.const (.int .i64 6), .tmp 51], .some 52)), (none, (.store 7 (.tmp 2) (.tmp 49), none)), (none, (.mov (.const (.int .i64 0)), .some 3)), (none, (.store 2 (.tmp 4) (.tmp 52), none))] []) .ret) .skip)) (.seq
  (.reg [(none, (.mov (.tmp 0), .some 54)), (none, (.mov (.tmp 5), .some 55)), (none, (.bin .sub (.tmp 55) (.const (.int .i64 12)), .some 56)), (none, (.build [.slice none 0 0, .int .i64 0, .int .i64 0, .int .i64 0] [(0, (1, .tmp 54)), (1, (1, .tmp 56))], .some 57)), (none, (.call (.func 149) [.tmp 57, .const (.int .i64 4)], .some 58)), (none, (.mov (.tmp 58), .some 53)), (none, (.ext (.tmp 53) 0, .some 59)), (none, (.ext (.tmp 53) 1, .some 60)), (none, (.new [.slice none 0 0, .int .i64 0, .int .i64 0, .int .i64 0], .some 8)), (none, (.store 4 (.tmp 8) (.tmp 59), none)), (none, (.mov (.tmp 60), .some 9))] []) (.seq (.seq
  (.reg [(none, (.mov (.tmp 9), .some 61)), (none, (.mov (.tmp 5), .some 62)), (none, (.bin .sub (.tmp 62) (.const (.int .i64 12)), .some 63)), (none, (.cvt .u64 (.tmp 63), .some 64)), (none, (.bin .gtr (.tmp 61) (.tmp 64), .some 65))] []) (.cond (.tmp 65) (.seq
  (.reg [(none, (.build [.int .u64 0, .int .i64 0, .int .i64 0, .int .u64 0, .int .u64 0, .int .i64 0, .int .i64 0] [], .some 66)), (none, (.mov (.tmp 5), .some 67)), (none, (.bin .sub (.tmp 67) (.const (.int .i64 12)), .some 68)), (none, (.call (.func 156) [.const (.int .i64 3), .tmp 68], .some 69)), (none, (.store 7 (.tmp 2) (.tmp 66), none)), (none, (.mov (.const (.int .i64 0)), .some 3)), (none, (.store 2 (.tmp 4) (.tmp 69), none))] []) .ret) .skip)) (.seq
  (.reg [(none, (.mov (.tmp 0), .some 71)), (none, (.mov (.tmp 5), .some 72)), (none, (.bin .sub (.tmp 72) (.const (.int .i64 12)), .some 73)), (none, (.slice 1 (.tmp 71) none (.some (.tmp 73)) none, .some 74)), (none, (.mov (.tmp 5), .some 75)), (none, (.bin .sub (.tmp 75) (.const (.int .i64 12)), .some 76)), (none, (.mov (.tmp 9), .some 77)), (none, (.cvt .i64 (.tmp 77), .some 78)), (none, (.bin .sub (.tmp 76) (.tmp 78), .some 79)), (none, (.build [.slice none 0 0, .int .i64 0, .int .i64 0, .int .i64 0] [(0, (1, .tmp 74)), (1, (1, .tmp 79))], .some 80)), (none, (.call (.func 157) [.tmp 80, .const (.int .i64 2097152)], .some 81)), (none, (.mov (.tmp 81), .some 70)), (none, (.ext (.tmp 70) 0, .some 82)), (none, (.ext (.tmp 70) 1, .some 83)), (none, (.new [.slice none 0 0, .int .i64 0, .int .i64 0, .int .i64 0], .some 10)), (none, (.store 4 (.tmp 10) (.tmp 82), none)), (none, (.mov (.tmp 83), .some 11))] []) (.seq
  (.reg [(none, (.load (.some 4) (.tmp 10), .some 84)), (none, (.call (.func 108) [.tmp 84], .some 85)), (none, (.store 4 (.tmp 10) (.tmp 85), none))] []) (.seq (.seq
  (.reg [(none, (.fadr 2 (.tmp 10), .some 86)), (none, (.fadr 0 (.tmp 86), .some 87)), (none, (.load none (.tmp 87), .some 88)), (none, (.bin .neq (.tmp 88) (.const (.int .i64 0)), .some 89))] []) (.cond (.tmp 89) (.seq
  (.reg [(none, (.build [.int .u64 0, .int .i64 0, .int .i64 0, .int .u64 0, .int .u64 0, .int .i64 0, .int .i64 0] [], .some 90)), (none, (.fadr 2 (.tmp 10), .some 91)), (none, (.load (.some 2) (.tmp 91), .some 92)), (none, (.store 7 (.tmp 2) (.tmp 90), none)), (none, (.mov (.const (.int .i64 0)), .some 3)), (none, (.store 2 (.tmp 4) (.tmp 92), none))] [(2, 3)]) .ret) .skip)) (.seq
  (.reg [(none, (.mov (.tmp 11), .some 94)), (none, (.call (.func 34) [.tmp 94], .some 95)), (none, (.mov (.tmp 95), .some 93)), (none, (.ext (.tmp 93) 0, .some 96)), (none, (.ext (.tmp 93) 1, .some 97)), (none, (.new [.int .u64 0, .int .i64 0, .int .i64 0, .int .u64 0, .int .u64 0, .int .i64 0, .int .i64 0], .some 12)), (none, (.new [.int .i64 0, .int .i64 0], .some 13)), (none, (.store 7 (.tmp 12) (.tmp 96), none)), (none, (.store 2 (.tmp 13) (.tmp 97), none))] []) (.seq (.seq
  (.reg [(none, (.fadr 0 (.tmp 13), .some 98)), (none, (.load none (.tmp 98), .some 99)), (none, (.bin .neq (.tmp 99) (.const (.int .i64 0)), .some 100))] []) (.cond (.tmp 100) (.seq
  (.reg [(none, (.build [.int .u64 0, .int .i64 0, .int .i64 0, .int .u64 0, .int .u64 0, .int .i64 0, .int .i64 0] [], .some 101)), (none, (.fadr 0 (.tmp 13), .some 102)), (none, (.load none (.tmp 102), .some 103)), (none, (.fadr 1 (.tmp 13), .some 104)), (none, (.load none (.tmp 104), .some 105)), (none, (.fadr 1 (.tmp 10), .some 106)), (none, (.load none (.tmp 106), .some 107)), (none, (.bin .add (.tmp 105) (.tmp 107), .some 108)), (none, (.bin .sub (.tmp 108) (.const (.int .i64 4)), .some 109)), (none, (.mov (.tmp 11), .some 110)), (none, (.len .false (.tmp 110), .some 111)), (none, (.bin .sub (.tmp 109) (.tmp 111), .some 112)), (none, (.call (.func 156) [.tmp 103, .tmp 112], .some 113)), (none, (.store 7 (.tmp 2) (.tmp 101), none)), (none, (.mov (.const (.int .i64 0)), .some 3)), (none, (.store 2 (.tmp 4) (.tmp 113), none))] []) .ret) .skip)) (.seq
  (.reg [(none, (.load (.some 7) (.tmp 12), .some 114)), (none, (.mov (.tmp 5), .some 115)), (none, (.bin .sub (.tmp 115) (.const (.int .i64 12)), .some 116)), (none, (.mov (.tmp 9), .some 117)), (none, (.cvt .i64 (.tmp 117), .some 118)), (none, (.bin .sub (.tmp 116) (.tmp 118), .some 119)), (none, (.build [.int .i64 0, .int .i64 0] [], .some 120)), (none, (.store 7 (.tmp 2) (.tmp 114), none)), (none, (.mov (.tmp 119), .some 3)), (none, (.store 2 (.tmp 4) (.tmp 120), none))] []) .ret)))))))))))))
theorem b86 : Try.f86.body.bind (compC Try.prog) = some c86 := by kernel_rfl
theorem r86 : compR Try.prog Try.f86 = .some [.cell 2 (.some 7), .tmp 3, .cell 4 (.some 2)] := by kernel_rfl
theorem n86 : (Try.f86.name == "runtime.NumGoroutine") = false := by kernel_rfl
def c87 : C := .seq
  (.reg [(none, (.box (.tmp 0), .some 1)), (none, (.mov (.const (.slice none 0 0)), .some 2))] []) (.seq
  (.reg [(none, (.load (.some 7) (.tmp 1), .some 4)), (none, (.call (.func 37) [.tmp 4], .some 5)), (none, (.call (.func 158) [.tmp 5], .some 6)), (none, (.mov (.tmp 6), .some 3))] []) (.seq
  (.reg [(none, (.mov (.tmp 3), .some 7)), (none, (.mov (.tmp 3), .some 8)), (none, (.len .false (.tmp 8), .some 9)), (none, (.call (.func 92) [.tmp 9], .some 10)), (none, (.app 1 1 (.tmp 7) (.tmp 10), .some 11)), (none, (.mov (.tmp 11), .some 2))] []) .ret))
theorem b87 : Try.f87.body.bind (compC Try.prog) = some c87 := by kernel_rfl
theorem r87 : compR Try.prog Try.f87 = .some [.tmp 2] := by kernel_rfl
theorem n87 : (Try.f87.name == "runtime.NumGoroutine") = false := by kernel_rfl
def c90 : C := .seq
  (.reg [(none, (.box (.tmp 0), .some 1)), (none, (.mov (.const (.bool .false)), .some 2))] []) (.seq
  (.reg [(none, (.fadr 1 (.tmp 1), .some 5)), (none, (.load none (.tmp 5), .some 6)), (none, (.bin .geq (.tmp 6) (.const (.int .i64 0)), .some 7)), (none, (.mov (.tmp 7), .some 8)), (.some (8, .true), (.fadr 1 (.tmp 1), .some 9)), (.some (8, .true), (.load none (.tmp 9), .some 10)), (.some (8, .true), (.bin .leq (.tmp 10) (.const (.int .i64 16)), .some 11)), (none, (.pick (.tmp 8) (.tmp 11) (.const (.bool .false)), .some 12)), (none, (.mov (.tmp 12), .some 13)), (.some (13, .true), (.fadr 2 (.tmp 1), .some 14)), (.some (13, .true), (.load none (.tmp 14), .some 15)), (.some (13, .true), (.fadr 1 (.tmp 1), .some 16)), (.some (13, .true), (.load none (.tmp 16), .some 17)), (.some (13, .true), (.bin .geq (.tmp 15) (.tmp 17), .some 18)), (none, (.pick (.tmp 13) (.tmp 18) (.const (.bool .false)), .some 19)), (none, (.mov (.tmp 19), .some 20)), (.some (20, .true), (.fadr 2 (.tmp 1), .some 21)), (.some (20, .true), (.load none (.tmp 21), .some 22)), (.some (20, .true), (.fadr 1 (.tmp 1), .some 23)), (.some (20, .true), (.load none (.tmp 23), .some 24)), (.some (20, .true), (.bin .mul (.tmp 24) (.const (.int .i64 16)), .some 25)), (.some (20, .true), (.bin .leq (.tmp 22) (.tmp 25), .some 26)), (none, (.pick (.tmp 20) (.tmp 26) (.const (.bool .false)), .some 27)), (none, (.mov (.tmp 27), .some 3))] []) (.seq
  (.reg [(none, (.fadr 5 (.tmp 1), .some 28)), (none, (.load none (.tmp 28), .some 29)), (none, (.bin .geq (.tmp 29) (.const (.int .i64 1)), .some 30)), (none, (.mov (.tmp 30), .some 31)), (.some (31, .true), (.fadr 5 (.tmp 1), .some 32)), (.some (31, .true), (.load none (.tmp 32), .some 33)), (.some (31, .true), (.bin .leq (.tmp 33) (.const (.int .i64 1099511627775)), .some 34)), (none, (.pick (.tmp 31) (.tmp 34) (.const (.bool .false)), .some 35)), (none, (.mov (.tmp 35), .some 36)), (.some (36, .true), (.fadr 6 (.tmp 1), .some 37)), (.some (36, .true), (.load none (.tmp 37), .some 38)), (.some (36, .true), (.bin .geq (.tmp 38) (.const (.int .i64 1)), .some 39)), (none, (.pick (.tmp 36) (.tmp 39) (.const (.bool .false)), .some 40)), (none, (.mov (.tmp 40), .some 41)), (.some (41, .true), (.fadr 6 (.tmp 1), .some 42)), (.some (41, .true), (.load none (.tmp 42), .some 43)), (.some (41, .true), (.bin .leq (.tmp 43) (.const (.int .i64 2097152)), .some 44)), (none, (.pick (.tmp 41) (.tmp 44) (.const (.bool .false)), .some 45)), (none, (.mov (.tmp 45), .some 4))] []) (.seq
  (.reg [(none, (.fadr 0 (.tmp 1), .some 46)), (none, (.load none (.tmp 46), .some 47)), (none, (.call (.func 143) [.tmp 47], .some 48)), (none, (.mov (.tmp 48), .some 49)), (.some (49, .true), (.mov (.tmp 3), .some 50)), (none, (.pick (.tmp 49) (.tmp 50) (.const (.bool .false)), .some 51)), (none, (.mov (.tmp 51), .some 52)), (.some (52, .true), (.mov (.tmp 4), .some 53)), (none, (.pick (.tmp 52) (.tmp 53) (.const (.bool .false)), .some 54)), (none, (.mov (.tmp 54), .some 55)), (.some (55, .true), (.load (.some 7) (.tmp 1), .some 56)), (.some (55, .true), (.call (.func 161) [.tmp 56], .some 57)), (none, (.pick (.tmp 55) (.tmp 57) (.const (.bool .false)), .some 58)), (none, (.mov (.tmp 58), .some 2))] []) .ret)))
theorem b90 : Try.f90.body.bind (compC Try.prog) = some c90 := by kernel_rfl
theorem r90 : compR Try.prog Try.f90 = .some [.tmp 2] := by kernel_rfl
theorem n90 : (Try.f90.name == "runtime.NumGoroutine") = false := by kernel_rfl
def c91 : C := .seq
  (.reg [(none, (.mov (.const (.slice none 0 0)), .some 2))] []) (.seq
  (.reg [(none, (.call (.func 95) [], .some 7)), (none, (.call (.func 53) [.tmp 7], .some 8)), (none, (.mov (.tmp 8), .some 3))] []) (.seq
  (.reg [(none, (.mov (.tmp 0), .some 9)), (none, (.cvt .u64 (.tmp 9), .some 10)), (none, (.call (.func 162) [.tmp 10, .const (.int .i64 4)], .some 11)), (none, (.mov (.tmp 11), .some 4))] []) (.seq
  (.reg [(none, (.mov (.tmp 3), .some 12)), (none, (.mov (.tmp 4), .some 13)), (none, (.call (.func 140) [.tmp 12, .tmp 13], .some 14))] []) (.seq
  (.reg [(none, (.mov (.tmp 3), .some 15)), (none, (.mov (.tmp 4), .some 16)), (none, (.call (.func 142) [.tmp 16], .some 17)), (none, (.cvt .u64 (.tmp 17), .some 18)), (none, (.call (.func 141) [.tmp 15, .tmp 18, .const (.int .i64 4)], .some 19))] []) (.seq
  (.reg [(none, (.mov (.tmp 3), .some 20)), (none, (.call (.func 163) [.tmp 20, .const (.string (.mk (#[76, 79, 72, 84])))], .some 21))] []) (.seq
  (.reg [(none, (.mov (.tmp 3), .some 23)), (none, (.call (.func 55) [.tmp 23], .some 24)), (none, (.mov (.tmp 24), .some 22)), (none, (.ext (.tmp 22) 0, .some 25)), (none, (.ext (.tmp 22) 1, .some 26)), (none, (.mov (.tmp 25), .some 5)), (none, (.mov (.tmp 26), .some 6))] []) (.seq
  (.reg [(none, (.mov (.tmp 5), .some 27)), (none, (.mov (.tmp 27), .some 2))] []) .ret)))))))
theorem b91 : Try.f91.body.bind (compC Try.prog) = some c91 := by kernel_rfl
theorem r91 : compR Try.prog Try.f91 = .some [.tmp 2] := by kernel_rfl
theorem n91 : (Try.f91.name == "runtime.NumGoroutine") = false := by kernel_rfl
def c95 : C := .seq
  (.reg [(none, (.mov (.const (.int .i64 0)), .some 0))] []) (.seq
  (.reg [(none, (.mov (.const (.int .i64 12)), .some 0))] []) .ret)
theorem b95 : Try.f95.body.bind (compC Try.prog) = some c95 := by kernel_rfl
theorem r95 : compR Try.prog Try.f95 = .some [.tmp 0] := by kernel_rfl
theorem n95 : (Try.f95.name == "runtime.NumGoroutine") = false := by kernel_rfl
def c104 : C := .seq
  (.reg [(none, (.box (.tmp 0), .some 3)), (none, (.new [.slice none 0 0, .int .i64 0, .int .i64 0, .int .i64 0], .some 6))] []) (.seq (.seq
  (.reg [(none, (.fadr 2 (.tmp 3), .some 7)), (none, (.fadr 0 (.tmp 7), .some 8)), (none, (.load none (.tmp 8), .some 9)), (none, (.bin .eql (.tmp 9) (.const (.int .i64 0)), .some 10))] []) (.cond (.tmp 10)
  (.reg [(none, (.mov (.tmp 1), .some 11)), (none, (.mov (.tmp 2), .some 12)), (none, (.call (.func 156) [.tmp 11, .tmp 12], .some 13)), (none, (.fadr 2 (.tmp 3), .some 14)), (none, (.store 2 (.tmp 14) (.tmp 13), none))] []) .skip)) (.seq
  (.reg [(none, (.load (.some 4) (.tmp 3), .some 15)), (none, (.store 4 (.tmp 6) (.tmp 15), none))] []) .ret))
theorem b104 : Try.f104.body.bind (compC Try.prog) = some c104 := by kernel_rfl
theorem r104 : compR Try.prog Try.f104 = .some [.cell 6 (.some 4)] := by kernel_rfl
theorem n104 : (Try.f104.name == "runtime.NumGoroutine") = false := by kernel_rfl
def c133 : C := .seq
  (.reg [(none, (.mov (.const (.bool .false)), .some 2))] []) (.seq
  (.reg [(none, (.mov (.tmp 0), .some 3)), (none, (.bin .leq (.tmp 3) (.const (.int .u64 4611686018427387903)), .some 4)), (none, (.mov (.tmp 4), .some 2))] []) .ret)
theorem b133 : Try.f133.body.bind (compC Try.prog) = some c133 := by kernel_rfl
theorem r133 : compR Try.prog Try.f133 = .some [.tmp 2] := by kernel_rfl
theorem n133 : (Try.f133.name == "runtime.NumGoroutine") = false := by kernel_rfl
def c148 : C := .seq
  (.reg [(none, (.mov (.const (.int .u32 0)), .some 2))] []) (.seq
  (.reg [(none, (.mov (.tmp 0), .some 3)), (none, (.call (.func 179) [.const (.int .u32 4294967295), .tmp 3], .some 4)), (none, (.bin .sub (.const (.int .u32 4294967295)) (.tmp 4), .some 5)), (none, (.mov (.tmp 5), .some 2))] []) .ret)
theorem b148 : Try.f148.body.bind (compC Try.prog) = some c148 := by kernel_rfl
theorem r148 : compR Try.prog Try.f148 = .some [.tmp 2] := by kernel_rfl
theorem n148 : (Try.f148.name == "runtime.NumGoroutine") = false := by kernel_rfl
def c149 : C := .seq
  (.reg [(none, (.box (.tmp 0), .some 2)), (none, (.new [.slice none 0 0, .int .i64 0, .int .i64 0, .int .i64 0], .some 4)), (none, (.mov (.const (.int .u64 0)), .some 5))] []) (.seq
  (.reg [(none, (.load (.some 4) (.tmp 2), .some 11)), (none, (.mov (.tmp 1), .some 12)), (none, (.mx .true (.tmp 12) (.const (.int .i64 0)), .some 13)), (none, (.mx .false (.tmp 13) (.const (.int .i64 8)), .some 14)), (none, (.call (.func 103) [.tmp 11, .tmp 14], .some 15)), (none, (.mov (.tmp 15), .some 10)), (none, (.ext (.tmp 10) 0, .some 16)), (none, (.ext (.tmp 10) 1, .some 17)), (none, (.new [.slice none 0 0, .int .i64 0, .int .i64 0, .int .i64 0], .some 6)), (none, (.store 4 (.tmp 6) (.tmp 16), none)), (none, (.mov (.tmp 17), .some 7))] []) (.seq
  (.reg [(none, (.mov (.const (.int .u64 0)), .some 8))] []) (.seq (.seq
  (.reg [(none, (.mov (.tmp 7), .some 18)), (none, (.len .false (.tmp 18), .some 19)), (none, (.bin .sub (.tmp 19) (.const (.int .i64 1)), .some 20)), (none, (.mov (.tmp 20), .some 9))] []) (.block 0 (.loop (.seq (.seq
  (.reg [(none, (.mov (.tmp 9), .some 21)), (none, (.bin .geq (.tmp 21) (.const (.int .i64 0)), .some 22))] []) (.cond (.tmp 22) .skip (.exit 0))) (.seq (.block 1
  (.reg [(none, (.mov (.tmp 8), .some 25)), (none, (.bin .mul (.const (.int .u64 256)) (.tmp 25), .some 26)), (none, (.mov (.tmp 7), .some 27)), (none, (.mov (.tmp 9), .some 28)), (none, (.iadr 1 (.tmp 27) (.tmp 28), .some 29)), (none, (.load none (.tmp 29), .some 30)), (none, (.cvt .u64 (.tmp 30), .some 31)), (none, (.bin .add (.tmp 26) (.tmp 31), .some 32)), (none, (.mov (.tmp 32), .some 8))] []))
  (.reg [(none, (.mov (.tmp 9), .some 23)), (none, (.bin .sub (.tmp 23) (.const (.int .i64 1)), .some 24)), (none, (.mov (.tmp 24), .some 9))] [])))))) (.seq
  (.reg [(none, (.load (.some 4) (.tmp 6), .some 33)), (none, (.mov (.tmp 8), .some 34)), (none, (.store 4 (.tmp 4) (.tmp 33), none)), (none, (.mov (.tmp 34), .some 5))] []) .ret))))
theorem b149 : Try.f149.body.bind (compC Try.prog) = some c149 := by kernel_rfl
theorem r149 : compR Try.prog Try.f149 = .some [.cell 4 (.some 4), .tmp 5] := by kernel_rfl
theorem n149 : (Try.f149.name == "runtime.NumGoroutine") = false := by kernel_rfl
def c150 : C := .seq
  (.reg [(none, (.mov (.const (.int .i64 0)), .some 2))] []) (.seq (.seq
  (.reg [(none, (.mov (.tmp 0), .some 3)), (none, (.eqp .false (.tmp 3) (.const (.pointer none)), .some 4))] []) (.cond (.tmp 4) (.seq
  (.reg [(none, (.mov (.const (.int .i64 0)), .some 2))] []) .ret) .skip)) (.seq
  (.reg [(none, (.mov (.tmp 0), .some 5)), (none, (.nilc (.tmp 5), .some 6)), (none, (.fadr 0 (.tmp 6), .some 7)), (none, (.load none (.tmp 7), .some 8)), (none, (.len .false (.tmp 8), .some 9)), (none, (.mov (.tmp 0), .some 10)), (none, (.nilc (.tmp 10), .some 11)), (none, (.fadr 1 (.tmp 11), .some 12)), (none, (.load none (.tmp 12), .some 13)), (none, (.bin .sub (.tmp 9) (.tmp 13), .some 14)), (none, (.mov (.tmp 14), .some 2))] [(3, 8)]) .ret))
theorem b150 : Try.f150.body.bind (compC Try.prog) = some c150 := by kernel_rfl
theorem r150 : compR Try.prog Try.f150 = .some [.tmp 2] := by kernel_rfl
theorem n150 : (Try.f150.name == "runtime.NumGoroutine") = false := by kernel_rfl
def c153 : C := .seq
  (.reg [(none, (.mov (.const (.int .i64 0)), .some 2)), (none, (.new [.int .i64 0, .int .i64 0], .some 3))] []) (.seq
  (.reg [(none, (.mov (.tmp 0), .some 11)), (none, (.len .false (.tmp 11), .some 12)), (none, (.mov (.tmp 12), .some 4))] []) (.seq (.seq
  (.reg [(none, (.mov (.tmp 4), .some 13)), (none, (.call (.func 95) [], .some 14)), (none, (.bin .lss (.tmp 13) (.tmp 14), .some 15))] []) (.cond (.tmp 15) (.seq
  (.reg [(none, (.mov (.tmp 4), .some 16)), (none, (.call (.func 124) [.const (.int .i64 1), .tmp 16], .some 17)), (none, (.mov (.const (.int .i64 0)), .some 2)), (none, (.store 2 (.tmp 3) (.tmp 17), none))] []) .ret) .skip)) (.seq
  (.reg [(none, (.mov (.tmp 0), .some 18)), (none, (.call (.func 44) [.tmp 18], .some 19)), (none, (.mov (.tmp 19), .some 5))] []) (.seq
  (.reg [(none, (.mov (.tmp 4), .some 20)), (none, (.call (.func 95) [], .some 21)), (none, (.bin .sub (.tmp 20) (.tmp 21), .some 22)), (none, (.mov (.tmp 22), .some 6))] []) (.seq
  (.reg [(none, (.mov (.tmp 5), .some 23)), (none, (.mov (.tmp 6), .some 24)), (none, (.call (.func 78) [.tmp 23, .tmp 24], .some 25))] []) (.seq
  (.reg [(none, (.mov (.tmp 5), .some 26)), (none, (.call (.func 180) [.tmp 26, .const (.int .i64 4)], .some 27)), (none, (.mov (.tmp 27), .some 7))] []) (.seq
  (.reg [(none, (.mov (.tmp 7), .some 28)), (none, (.call (.func 178) [.tmp 28, .const (.int .i64 4)], .some 29)), (none, (.call (.func 142) [.tmp 29], .some 30)), (none, (.mov (.tmp 30), .some 8))] []) (.seq
  (.reg [(none, (.mov (.tmp 5), .some 31)), (none, (.call (.func 152) [.tmp 31, .const (.int .i64 4)], .some 32)), (none, (.mov (.tmp 32), .some 9))] []) (.seq
  (.reg [(none, (.mov (.tmp 5), .some 33)), (none, (.call (.func 152) [.tmp 33, .const (.int .i64 4)], .some 34)), (none, (.mov (.tmp 34), .some 10))] []) (.seq (.block 0 (.seq
  (.reg [(none, (.mov (.tmp 5), .some 36)), (none, (.call (.func 178) [.tmp 36, .const (.int .i64 4)], .some 37)), (none, (.b2s (.tmp 37), .some 38)), (none, (.bin .neq (.tmp 38) (.const (.string (.mk (#[76, 79, 72, 84])))), .some 39)), (none, (.mov (.tmp 39), .some 35))] []) (.cond (.tmp 35) (.seq
  (.reg [(none, (.mov (.tmp 4), .some 40)), (none, (.bin .sub (.tmp 40) (.const (.int .i64 4)), .some 41)), (none, (.call (.func 124) [.const (.int .i64 14), .tmp 41], .some 42)), (none, (.mov (.const (.int .i64 0)), .some 2)), (none, (.store 2 (.tmp 3) (.tmp 42), none))] []) .ret) (.seq
  (.reg [(none, (.mov (.tmp 10), .some 44)), (none, (.mov (.tmp 8), .some 45)), (none, (.cvt .u64 (.tmp 45), .some 46)), (none, (.bin .neq (.tmp 44) (.tmp 46), .some 47)), (none, (.mov (.tmp 47), .some 43))] []) (.cond (.tmp 43) (.seq
  (.reg [(none, (.mov (.tmp 4), .some 48)), (none, (.bin .sub (.tmp 48) (.const (.int .i64 4)), .some 49)), (none, (.bin .sub (.tmp 49) (.const (.int .i64 4)), .some 50)), (none, (.call (.func 124) [.const (.int .i64 6), .tmp 50], .some 51)), (none, (.mov (.const (.int .i64 0)), .some 2)), (none, (.store 2 (.tmp 3) (.tmp 51), none))] []) .ret) (.seq
  (.reg [(none, (.mov (.tmp 9), .some 53)), (none, (.mov (.tmp 6), .some 54)), (none, (.cvt .u64 (.tmp 54), .some 55)), (none, (.bin .gtr (.tmp 53) (.tmp 55), .some 56)), (none, (.mov (.tmp 56), .some 52))] []) (.cond (.tmp 52) (.seq
  (.reg [(none, (.mov (.tmp 6), .some 57)), (none, (.call (.func 124) [.const (.int .i64 3), .tmp 57], .some 58)), (none, (.mov (.const (.int .i64 0)), .some 2)), (none, (.store 2 (.tmp 3) (.tmp 58), none))] []) .ret) .skip))))))) (.seq
  (.reg [(none, (.mov (.tmp 9), .some 59)), (none, (.cvt .i64 (.tmp 59), .some 60)), (none, (.build [.int .i64 0, .int .i64 0] [], .some 61)), (none, (.mov (.tmp 60), .some 2)), (none, (.store 2 (.tmp 3) (.tmp 61), none))] []) .ret)))))))))))
theorem b153 : Try.f153.body.bind (compC Try.prog) = some c153 := by kernel_rfl
theorem r153 : compR Try.prog Try.f153 = .some [.tmp 2, .cell 3 (.some 2)] := by kernel_rfl
theorem n153 : (Try.f153.name == "runtime.NumGoroutine") = false := by kernel_rfl
def c162 : C := .seq
  (.reg [(none, (.mov (.const (.slice none 0 0)), .some 4))] []) (.seq
  (.reg [(none, (.mov (.const (.slice none 0 0)), .some 5))] []) (.seq (.seq
  (.reg [(none, (.mov (.tmp 1), .some 6)), (none, (.mx .true (.tmp 6) (.const (.int .i64 0)), .some 7)), (none, (.mx .false (.tmp 7) (.const (.int .i64 8)), .some 8)), (none, (.mov (.const (.int .i64 0)), .some 9))] []) (.block 0 (.loop (.seq
  (.reg [(none, (.bin .lss (.tmp 9) (.tmp 8), .some 10))] []) (.seq (.cond (.tmp 10) .skip (.exit 0)) (.seq (.block 1 (.seq
  (.reg [(none, (.mov (.tmp 5), .some 11)), (none, (.mov (.tmp 0), .some 12)), (none, (.bin .rem (.tmp 12) (.const (.int .u64 256)), .some 13)), (none, (.cvt .u8 (.tmp 13), .some 14)), (none, (.bsl 1 [.tmp 14], .some 15)), (none, (.app 1 1 (.tmp 11) (.tmp 15), .some 16)), (none, (.mov (.tmp 16), .some 5))] [])
  (.reg [(none, (.mov (.tmp 0), .some 17)), (none, (.bin .quo (.tmp 17) (.const (.int .u64 256)), .some 18)), (none, (.mov (.tmp 18), .some 0))] [])))
  (.reg [(none, (.bin .add (.tmp 9) (.const (.int .i64 1)), .some 19)), (none, (.mov (.tmp 19), .some 9))] []))))))) (.seq
  (.reg [(none, (.mov (.tmp 5), .some 20)), (none, (.mov (.tmp 20), .some 4))] []) .ret)))
theorem b162 : Try.f162.body.bind (compC Try.prog) = some c162 := by kernel_rfl
theorem r162 : compR Try.prog Try.f162 = .some [.tmp 4] := by kernel_rfl
theorem n162 : (Try.f162.name == "runtime.NumGoroutine") = false := by kernel_rfl
def c163 : C := .reg [(none, (.mov (.tmp 0), .some 4)), (none, (.mov (.tmp 1), .some 5)), (none, (.s2b (.tmp 5), .some 6)), (none, (.call (.func 140) [.tmp 4, .tmp 6], .some 7))] []
theorem b163 : Try.f163.body.bind (compC Try.prog) = some c163 := by kernel_rfl
theorem r163 : compR Try.prog Try.f163 = .some [] := by kernel_rfl
theorem n163 : (Try.f163.name == "runtime.NumGoroutine") = false := by kernel_rfl
def c164 : C := .seq
  (.reg [(none, (.mov (.const (.int .u64 0)), .some 4))] []) (.seq
  (.reg [(none, (.mov (.tmp 0), .some 7)), (none, (.call (.func 49) [.tmp 7], .some 8)), (none, (.mov (.tmp 8), .some 5))] []) (.seq
  (.reg [(none, (.mov (.tmp 0), .some 9)), (none, (.call (.func 100) [.tmp 9], .some 10)), (none, (.mov (.tmp 10), .some 6))] []) (.seq (.seq
  (.reg [(none, (.mov (.tmp 1), .some 11)), (none, (.mov (.tmp 6), .some 12)), (none, (.call (.tmp 11) [.tmp 12], .some 13)), (none, (.un .not (.tmp 13), .some 14))] []) (.cond (.tmp 14)
  (.reg [(none, (.mov (.tmp 0), .some 15)), (none, (.mov (.tmp 5), .some 16)), (none, (.call (.func 97) [.tmp 15, .const (.int .i64 3), .tmp 16], .some 17))] []) .skip)) (.seq (.seq
  (.reg [(none, (.mov (.tmp 0), .some 18)), (none, (.call (.func 57) [.tmp 18], .some 19)), (none, (.un .not (.tmp 19), .some 20))] []) (.cond (.tmp 20) (.seq
  (.reg [(none, (.mov (.const (.int .u64 0)), .some 4))] []) .ret) .skip)) (.seq
  (.reg [(none, (.mov (.tmp 6), .some 21)), (none, (.mov (.tmp 21), .some 4))] []) .ret)))))
theorem b164 : Try.f164.body.bind (compC Try.prog) = some c164 := by kernel_rfl
theorem r164 : compR Try.prog Try.f164 = .some [.tmp 4] := by kernel_rfl
theorem n164 : (Try.f164.name == "runtime.NumGoroutine") = false := by kernel_rfl
def c180 : C := .seq
  (.reg [(none, (.mov (.const (.pointer none)), .some 4))] []) (.seq (.seq
  (.reg [(none, (.mov (.tmp 0), .some 6)), (none, (.eqp .false (.tmp 6) (.const (.pointer none)), .some 7))] []) (.cond (.tmp 7) (.seq
  (.reg [(none, (.mov (.const (.pointer none)), .some 4))] []) .ret) .skip)) (.seq
  (.reg [(none, (.mov (.tmp 0), .some 8)), (none, (.nilc (.tmp 8), .some 9)), (none, (.fadr 1 (.tmp 9), .some 10)), (none, (.load none (.tmp 10), .some 11)), (none, (.mov (.tmp 1), .some 12)), (none, (.mx .true (.tmp 12) (.const (.int .i64 0)), .some 13)), (none, (.mov (.tmp 0), .some 14)), (none, (.call (.func 150) [.tmp 14], .some 15)), (none, (.mx .false (.tmp 13) (.tmp 15), .some 16)), (none, (.bin .add (.tmp 11) (.tmp 16), .some 17)), (none, (.mov (.tmp 17), .some 5))] [(3, 7)]) (.seq
  (.reg [(none, (.mov (.tmp 0), .some 18)), (none, (.nilc (.tmp 18), .some 19)), (none, (.fadr 0 (.tmp 19), .some 20)), (none, (.load none (.tmp 20), .some 21)), (none, (.mov (.tmp 5), .some 22)), (none, (.mov (.tmp 5), .some 23)), (none, (.slice 1 (.tmp 21) none (.some (.tmp 22)) (.some (.tmp 23)), .some 24)), (none, (.mov (.tmp 0), .some 25)), (none, (.nilc (.tmp 25), .some 26)), (none, (.fadr 1 (.tmp 26), .some 27)), (none, (.load none (.tmp 27), .some 28)), (none, (.build [.slice none 0 0, .int .i64 0, .int .i64 0, .int .i64 0] [(0, (1, .tmp 24)), (1, (1, .tmp 28))], .some 29)), (none, (.box (.tmp 29), .some 30)), (none, (.mov (.tmp 30), .some 4))] [(3, 10)]) .ret)))
theorem b180 : Try.f180.body.bind (compC Try.prog) = some c180 := by kernel_rfl
theorem r180 : compR Try.prog Try.f180 = .some [.tmp 4] := by kernel_rfl
theorem n180 : (Try.f180.name == "runtime.NumGoroutine") = false := by kernel_rfl
def c190 : C := .seq
  (.reg [(none, (.mov (.const (.slice none 0 0)), .some 4))] []) (.seq
  (.reg [(none, (.mov (.tmp 0), .some 6)), (none, (.mov (.tmp 1), .some 7)), (none, (.call (.func 99) [.tmp 6, .tmp 7], .some 8)), (none, (.mov (.tmp 8), .some 5))] []) (.seq
  (.reg [(none, (.mov (.tmp 0), .some 9)), (none, (.mov (.tmp 5), .some 10)), (none, (.call (.func 178) [.tmp 9, .tmp 10], .some 11)), (none, (.mov (.tmp 11), .some 4))] []) .ret))
theorem b190 : Try.f190.body.bind (compC Try.prog) = some c190 := by kernel_rfl
theorem r190 : compR Try.prog Try.f190 = .some [.tmp 4] := by kernel_rfl
theorem n190 : (Try.f190.name == "runtime.NumGoroutine") = false := by kernel_rfl
def c192 : C := .seq
  (.reg [(none, (.mov (.tmp 0), .some 8)), (none, (.call (.func 142) [.tmp 8], .some 9)), (none, (.cvt .u64 (.tmp 9), .some 10)), (none, (.mov (.tmp 1), .some 11)), (none, (.bin .neq (.tmp 10) (.tmp 11), .some 12))] []) (.cond (.tmp 12)
  (.reg [(none, (.mov (.tmp 2), .some 13)), (none, (.mov (.tmp 3), .some 14)), (none, (.call (.tmp 13) [.const (.int .i64 6), .tmp 14], .some 15))] []) .skip)
theorem b192 : Try.f192.body.bind (compC Try.prog) = some c192 := by kernel_rfl
theorem r192 : compR Try.prog Try.f192 = .some [] := by kernel_rfl
theorem n192 : (Try.f192.name == "runtime.NumGoroutine") = false := by kernel_rfl
end Go.Proofs.Ytkhnfleejgfhgaa
