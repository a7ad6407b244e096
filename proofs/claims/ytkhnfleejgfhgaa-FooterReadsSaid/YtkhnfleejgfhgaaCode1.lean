/-
  The codes of the seat's functions over abstract values, each shown to be its function's own (by program: wip/tools/codes.py).
-/
import Derived.Test.YtkhnfleejgfhgaaA2
import Derived.Test.YtkhnfleejgfhgaaProg
import Derived.KernelRfl
namespace Go.Proofs.Ytkhnfleejgfhgaa
def c23 : C := .seq
  (.reg [(none, (.mov (.const (.bool .false)), .some 4))] []) (.seq
  (.reg [(none, (.mov (.tmp 0), .some 5)), (none, (.b2s (.tmp 5), .some 6)), (none, (.mov (.tmp 1), .some 7)), (none, (.b2s (.tmp 7), .some 8)), (none, (.bin .eql (.tmp 6) (.tmp 8), .some 9)), (none, (.mov (.tmp 9), .some 4))] []) .ret)
theorem b23 : Try.f23.body.bind (compC Try.prog) = some c23 := by kernel_rfl
theorem r23 : compR Try.prog Try.f23 = .some [.tmp 4] := by kernel_rfl
theorem n23 : (Try.f23.name == "runtime.NumGoroutine") = false := by kernel_rfl
def c35 : C := .seq
  (.reg [(none, (.box (.tmp 0), .some 1)), (none, (.new [.int .u64 0, .int .i64 0, .int .i64 0, .int .u64 0, .int .u64 0, .int .i64 0, .int .i64 0], .some 2))] []) (.seq
  (.reg [(none, (.fadr 0 (.tmp 1), .some 3)), (none, (.load none (.tmp 3), .some 4)), (none, (.fadr 1 (.tmp 1), .some 5)), (none, (.load none (.tmp 5), .some 6)), (none, (.fadr 2 (.tmp 1), .some 7)), (none, (.load none (.tmp 7), .some 8)), (none, (.fadr 3 (.tmp 1), .some 9)), (none, (.load none (.tmp 9), .some 10)), (none, (.fadr 4 (.tmp 1), .some 11)), (none, (.load none (.tmp 11), .some 12)), (none, (.fadr 5 (.tmp 1), .some 13)), (none, (.load none (.tmp 13), .some 14)), (none, (.fadr 6 (.tmp 1), .some 15)), (none, (.load none (.tmp 15), .some 16)), (none, (.build [.int .u64 0, .int .i64 0, .int .i64 0, .int .u64 0, .int .u64 0, .int .i64 0, .int .i64 0] [(0, (1, .tmp 4)), (1, (1, .tmp 6)), (2, (1, .tmp 8)), (3, (1, .tmp 10)), (4, (1, .tmp 12)), (5, (1, .tmp 14)), (6, (1, .tmp 16))], .some 17)), (none, (.store 7 (.tmp 2) (.tmp 17), none))] []) .ret)
theorem b35 : Try.f35.body.bind (compC Try.prog) = some c35 := by kernel_rfl
theorem r35 : compR Try.prog Try.f35 = .some [.cell 2 (.some 7)] := by kernel_rfl
theorem n35 : (Try.f35.name == "runtime.NumGoroutine") = false := by kernel_rfl
def c36 : C := .seq
  (.reg [(none, (.box (.tmp 0), .some 1)), (none, (.mov (.const (.bool .false)), .some 2))] []) (.seq (.seq
  (.reg [(none, (.fadr 0 (.tmp 1), .some 3)), (none, (.load none (.tmp 3), .some 4)), (none, (.call (.func 109) [.tmp 4], .some 5)), (none, (.un .not (.tmp 5), .some 6)), (none, (.mov (.tmp 6), .some 7)), (.some (7, .false), (.fadr 1 (.tmp 1), .some 8)), (.some (7, .false), (.load none (.tmp 8), .some 9)), (.some (7, .false), (.bin .lss (.tmp 9) (.const (.int .i64 0)), .some 10)), (none, (.pick (.tmp 7) (.const (.bool .true)) (.tmp 10), .some 11)), (none, (.mov (.tmp 11), .some 12)), (.some (12, .false), (.fadr 1 (.tmp 1), .some 13)), (.some (12, .false), (.load none (.tmp 13), .some 14)), (.some (12, .false), (.bin .gtr (.tmp 14) (.const (.int .i64 16)), .some 15)), (none, (.pick (.tmp 12) (.const (.bool .true)) (.tmp 15), .some 16)), (none, (.mov (.tmp 16), .some 17)), (.some (17, .false), (.fadr 2 (.tmp 1), .some 18)), (.some (17, .false), (.load none (.tmp 18), .some 19)), (.some (17, .false), (.fadr 1 (.tmp 1), .some 20)), (.some (17, .false), (.load none (.tmp 20), .some 21)), (.some (17, .false), (.bin .lss (.tmp 19) (.tmp 21), .some 22)), (none, (.pick (.tmp 17) (.const (.bool .true)) (.tmp 22), .some 23)), (none, (.mov (.tmp 23), .some 24)), (.some (24, .false), (.fadr 2 (.tmp 1), .some 25)), (.some (24, .false), (.load none (.tmp 25), .some 26)), (.some (24, .false), (.fadr 1 (.tmp 1), .some 27)), (.some (24, .false), (.load none (.tmp 27), .some 28)), (.some (24, .false), (.bin .mul (.const (.int .i64 16)) (.tmp 28), .some 29)), (.some (24, .false), (.bin .gtr (.tmp 26) (.tmp 29), .some 30)), (none, (.pick (.tmp 24) (.const (.bool .true)) (.tmp 30), .some 31))] []) (.cond (.tmp 31) (.seq
  (.reg [(none, (.mov (.const (.bool .false)), .some 2))] []) .ret) .skip)) (.seq (.seq
  (.reg [(none, (.fadr 5 (.tmp 1), .some 32)), (none, (.load none (.tmp 32), .some 33)), (none, (.bin .lss (.tmp 33) (.const (.int .i64 1)), .some 34)), (none, (.mov (.tmp 34), .some 35)), (.some (35, .false), (.fadr 5 (.tmp 1), .some 36)), (.some (35, .false), (.load none (.tmp 36), .some 37)), (.some (35, .false), (.bin .gtr (.tmp 37) (.const (.int .i64 1099511627775)), .some 38)), (none, (.pick (.tmp 35) (.const (.bool .true)) (.tmp 38), .some 39)), (none, (.mov (.tmp 39), .some 40)), (.some (40, .false), (.fadr 6 (.tmp 1), .some 41)), (.some (40, .false), (.load none (.tmp 41), .some 42)), (.some (40, .false), (.bin .lss (.tmp 42) (.const (.int .i64 1)), .some 43)), (none, (.pick (.tmp 40) (.const (.bool .true)) (.tmp 43), .some 44)), (none, (.mov (.tmp 44), .some 45)), (.some (45, .false), (.fadr 6 (.tmp 1), .some 46)), (.some (45, .false), (.load none (.tmp 46), .some 47)), (.some (45, .false), (.bin .gtr (.tmp 47) (.const (.int .i64 2097152)), .some 48)), (none, (.pick (.tmp 45) (.const (.bool .true)) (.tmp 48), .some 49))] []) (.cond (.tmp 49) (.seq
  (.reg [(none, (.mov (.const (.bool .false)), .some 2))] []) .ret) .skip)) (.seq (.seq
  (.reg [(none, (.fadr 1 (.tmp 1), .some 50)), (none, (.load none (.tmp 50), .some 51)), (none, (.bin .eql (.tmp 51) (.const (.int .i64 0)), .some 52))] []) (.cond (.tmp 52) (.seq
  (.reg [(none, (.fadr 3 (.tmp 1), .some 53)), (none, (.load none (.tmp 53), .some 54)), (none, (.bin .eql (.tmp 54) (.const (.int .u64 0)), .some 55)), (none, (.mov (.tmp 55), .some 56)), (.some (56, .true), (.fadr 4 (.tmp 1), .some 57)), (.some (56, .true), (.load none (.tmp 57), .some 58)), (.some (56, .true), (.bin .eql (.tmp 58) (.const (.int .u64 0)), .some 59)), (none, (.pick (.tmp 56) (.tmp 59) (.const (.bool .false)), .some 60)), (none, (.mov (.tmp 60), .some 2))] []) .ret) .skip)) (.seq
  (.reg [(none, (.fadr 3 (.tmp 1), .some 61)), (none, (.load none (.tmp 61), .some 62)), (none, (.fadr 4 (.tmp 1), .some 63)), (none, (.load none (.tmp 63), .some 64)), (none, (.bin .lss (.tmp 62) (.tmp 64), .some 65)), (none, (.mov (.tmp 65), .some 66)), (.some (66, .true), (.fadr 4 (.tmp 1), .some 67)), (.some (66, .true), (.load none (.tmp 67), .some 68)), (.some (66, .true), (.bin .leq (.tmp 68) (.const (.int .u64 4611686018427387904)), .some 69)), (none, (.pick (.tmp 66) (.tmp 69) (.const (.bool .false)), .some 70)), (none, (.mov (.tmp 70), .some 71)), (.some (71, .true), (.fadr 4 (.tmp 1), .some 72)), (.some (71, .true), (.load none (.tmp 72), .some 73)), (.some (71, .true), (.fadr 3 (.tmp 1), .some 74)), (.some (71, .true), (.load none (.tmp 74), .some 75)), (.some (71, .true), (.bin .sub (.tmp 73) (.tmp 75), .some 76)), (.some (71, .true), (.fadr 2 (.tmp 1), .some 77)), (.some (71, .true), (.load none (.tmp 77), .some 78)), (.some (71, .true), (.cvt .u64 (.tmp 78), .some 79)), (.some (71, .true), (.bin .geq (.tmp 76) (.tmp 79), .some 80)), (none, (.pick (.tmp 71) (.tmp 80) (.const (.bool .false)), .some 81)), (none, (.mov (.tmp 81), .some 2))] []) .ret))))
theorem b36 : Try.f36.body.bind (compC Try.prog) = some c36 := by kernel_rfl
theorem r36 : compR Try.prog Try.f36 = .some [.tmp 2] := by kernel_rfl
theorem n36 : (Try.f36.name == "runtime.NumGoroutine") = false := by kernel_rfl
def c37 : C := .seq
  (.reg [(none, (.box (.tmp 0), .some 1)), (none, (.mov (.const (.slice none 0 0)), .some 2))] []) (.seq
  (.reg [(none, (.bsl 1 [.const (.int .u8 3)], .some 6)), (none, (.fadr 0 (.tmp 1), .some 7)), (none, (.load none (.tmp 7), .some 8)), (none, (.call (.func 110) [.tmp 8], .some 9)), (none, (.app 1 1 (.tmp 6) (.tmp 9), .some 10)), (none, (.mov (.tmp 10), .some 3))] []) (.seq
  (.reg [(none, (.fadr 1 (.tmp 1), .some 11)), (none, (.load none (.tmp 11), .some 12)), (none, (.cvt .u64 (.tmp 12), .some 13)), (none, (.fadr 2 (.tmp 1), .some 14)), (none, (.load none (.tmp 14), .some 15)), (none, (.cvt .u64 (.tmp 15), .some 16)), (none, (.fadr 3 (.tmp 1), .some 17)), (none, (.load none (.tmp 17), .some 18)), (none, (.fadr 4 (.tmp 1), .some 19)), (none, (.load none (.tmp 19), .some 20)), (none, (.fadr 5 (.tmp 1), .some 21)), (none, (.load none (.tmp 21), .some 22)), (none, (.cvt .u64 (.tmp 22), .some 23)), (none, (.fadr 6 (.tmp 1), .some 24)), (none, (.load none (.tmp 24), .some 25)), (none, (.cvt .u64 (.tmp 25), .some 26)), (none, (.bsl 1 [.tmp 13, .tmp 16, .tmp 18, .tmp 20, .tmp 23, .tmp 26], .some 27)), (none, (.mov (.tmp 27), .some 4))] []) (.seq (.seq
  (.reg [(none, (.mov (.const (.int .i64 0)), .some 5))] []) (.block 0 (.loop (.seq (.seq
  (.reg [(none, (.mov (.tmp 5), .some 28)), (none, (.mov (.tmp 4), .some 29)), (none, (.len .false (.tmp 29), .some 30)), (none, (.bin .lss (.tmp 28) (.tmp 30), .some 31))] []) (.cond (.tmp 31) .skip (.exit 0))) (.seq (.block 1
  (.reg [(none, (.mov (.tmp 3), .some 34)), (none, (.mov (.tmp 4), .some 35)), (none, (.mov (.tmp 5), .some 36)), (none, (.iadr 1 (.tmp 35) (.tmp 36), .some 37)), (none, (.load none (.tmp 37), .some 38)), (none, (.call (.func 110) [.tmp 38], .some 39)), (none, (.app 1 1 (.tmp 34) (.tmp 39), .some 40)), (none, (.mov (.tmp 40), .some 3))] []))
  (.reg [(none, (.mov (.tmp 5), .some 32)), (none, (.bin .add (.tmp 32) (.const (.int .i64 1)), .some 33)), (none, (.mov (.tmp 33), .some 5))] [])))))) (.seq
  (.reg [(none, (.mov (.tmp 3), .some 41)), (none, (.mov (.tmp 41), .some 2))] []) .ret))))
theorem b37 : Try.f37.body.bind (compC Try.prog) = some c37 := by kernel_rfl
theorem r37 : compR Try.prog Try.f37 = .some [.tmp 2] := by kernel_rfl
theorem n37 : (Try.f37.name == "runtime.NumGoroutine") = false := by kernel_rfl
def c48 : C := .seq
  (.reg [(none, (.new [.int .i64 0, .int .i64 0], .some 2))] []) (.seq (.seq
  (.reg [(none, (.mov (.tmp 0), .some 3)), (none, (.eqp .false (.tmp 3) (.const (.pointer none)), .some 4))] []) (.cond (.tmp 4) (.seq
  (.reg [(none, (.call (.func 124) [.const (.int .i64 19), .const (.int .i64 0)], .some 5)), (none, (.store 2 (.tmp 2) (.tmp 5), none))] []) .ret) .skip)) (.seq
  (.reg [(none, (.mov (.tmp 0), .some 6)), (none, (.nilc (.tmp 6), .some 7)), (none, (.fadr 2 (.tmp 7), .some 8)), (none, (.load (.some 2) (.tmp 8), .some 9)), (none, (.store 2 (.tmp 2) (.tmp 9), none))] []) .ret))
theorem b48 : Try.f48.body.bind (compC Try.prog) = some c48 := by kernel_rfl
theorem r48 : compR Try.prog Try.f48 = .some [.cell 2 (.some 2)] := by kernel_rfl
theorem n48 : (Try.f48.name == "runtime.NumGoroutine") = false := by kernel_rfl
def c90 : C := .seq
  (.reg [(none, (.box (.tmp 0), .some 1)), (none, (.mov (.const (.bool .false)), .some 2))] []) (.seq
  (.reg [(none, (.fadr 1 (.tmp 1), .some 5)), (none, (.load none (.tmp 5), .some 6)), (none, (.bin .geq (.tmp 6) (.const (.int .i64 0)), .some 7)), (none, (.mov (.tmp 7), .some 8)), (.some (8, .true), (.fadr 1 (.tmp 1), .some 9)), (.some (8, .true), (.load none (.tmp 9), .some 10)), (.some (8, .true), (.bin .leq (.tmp 10) (.const (.int .i64 16)), .some 11)), (none, (.pick (.tmp 8) (.tmp 11) (.const (.bool .false)), .some 12)), (none, (.mov (.tmp 12), .some 13)), (.some (13, .true), (.fadr 2 (.tmp 1), .some 14)), (.some (13, .true), (.load none (.tmp 14), .some 15)), (.some (13, .true), (.fadr 1 (.tmp 1), .some 16)), (.some (13, .true), (.load none (.tmp 16), .some 17)), (.some (13, .true), (.bin .geq (.tmp 15) (.tmp 17), .some 18)), (none, (.pick (.tmp 13) (.tmp 18) (.const (.bool .false)), .some 19)), (none, (.mov (.tmp 19), .some 20)), (.some (20, .true), (.fadr 2 (.tmp 1), .some 21)), (.some (20, .true), (.load none (.tmp 21), .some 22)), (.some (20, .true), (.fadr 1 (.tmp 1), .some 23)), (.some (20, .true), (.load none (.tmp 23), .some 24)), (.some (20, .true), (.bin .mul (.tmp 24) (.const (.int .i64 16)), .some 25)), (.some (20, .true), (.bin .leq (.tmp 22) (.tmp 25), .some 26)), (none, (.pick (.tmp 20) (.tmp 26) (.const (.bool .false)), .some 27)), (none, (.mov (.tmp 27), .some 3))] []) (.seq
  (.reg [(none, (.fadr 5 (.tmp 1), .some 28)), (none, (.load none (.tmp 28), .some 29)), (none, (.bin .geq (.tmp 29) (.const (.int .i64 1)), .some 30)), (none, (.mov (.tmp 30), .some 31)), (.some (31, .true), (.fadr 5 (.tmp 1), .some 32)), (.some (31, .true), (.load none (.tmp 32), .some 33)), (.some (31, .true), (.bin .leq (.tmp 33) (.const (.int .i64 1099511627775)), .some 34)), (none, (.pick (.tmp 31) (.tmp 34) (.const (.bool .false)), .some 35)), (none, (.mov (.tmp 35), .some 36)), (.some (36, .true), (.fadr 6 (.tmp 1), .some 37)), (.some (36, .true), (.load none (.tmp 37), .some 38)), (.some (36, .true), (.bin .geq (.tmp 38) (.const (.int .i64 1)), .some 39)), (none, (.pick (.tmp 36) (.tmp 39) (.const (.bool .false)), .some 40)), (none, (.mov (.tmp 40), .some 41)), (.some (41, .true), (.fadr 6 (.tmp 1), .some 42)), (.some (41, .true), (.load none (.tmp 42), .some 43)), (.some (41, .true), (.bin .leq (.tmp 43) (.const (.int .i64 2097152)), .some 44)), (none, (.pick (.tmp 41) (.tmp 44) (.const (.bool .false)), .some 45)), (none, (.mov (.tmp 45), .some 4))] []) (.seq
  (.reg [(none, (.fadr 0 (.tmp 1), .some 46)), (none, (.load none (.tmp 46), .some 47)), (none, (.call (.func 143) [.tmp 47], .some 48)), (none, (.mov (.tmp 48), .some 49)), (.some (49, .true), (.mov (.tmp 3), .some 50)), (none, (.pick (.tmp 49) (.tmp 50) (.const (.bool .false)), .some 51)), (none, (.mov (.tmp 51), .some 52)), (.some (52, .true), (.mov (.tmp 4), .some 53)), (none, (.pick (.tmp 52) (.tmp 53) (.const (.bool .false)), .some 54)), (none, (.mov (.tmp 54), .some 55)), (.some (55, .true), (.load (.some 7) (.tmp 1), .some 56)), (.some (55, .true), (.call (.func 161) [.tmp 56], .some 57)), (none, (.pick (.tmp 55) (.tmp 57) (.const (.bool .false)), .some 58)), (none, (.mov (.tmp 58), .some 2))] []) .ret)))
theorem b90 : Try.f90.body.bind (compC Try.prog) = some c90 := by kernel_rfl
theorem r90 : compR Try.prog Try.f90 = .some [.tmp 2] := by kernel_rfl
theorem n90 : (Try.f90.name == "runtime.NumGoroutine") = false := by kernel_rfl
def c91 : C := .seq
  (.reg [(none, (.mov (.const (.slice none 0 0)), .some 2))] []) (.seq
  (.reg [(none, (.call (.func 95) [], .some 7)), (none, (.call (.func 53) [.tmp 7], .some 8)), (none, (.mov (.tmp 8), .some 3))] []) (.seq
  (.reg [(none, (.mov (.tmp 0), .some 9)), (none, (.cvt .u64 (.tmp 9), .some 10)), (none, (.call (.func 162) [.tmp 10, .const (.int .i64 4)], .some 11)), (none, (.mov (.tmp 11), .some 4))] []) (.seq
  (.reg [(none, (.mov (.tmp 3), .some 12)), (none, (.mov (.tmp 4), .some 13)), (none, (.call (.func 140) [.tmp 12, .tmp 13], .some 14))] []) (.seq
  (.reg [(none, (.mov (.tmp 3), .some 15)), (none, (.mov (.tmp 4), .some 16)), (none, (.call (.func 142) [.tmp 16], .some 17)), (none, (.cvt .u64 (.tmp 17), .some 18)), (none, (.call (.func 141) [.tmp 15, .tmp 18, .const (.int .i64 4)], .some 19))] []) (.seq
  (.reg [(none, (.mov (.tmp 3), .some 20)), (none, (.call (.func 163) [.tmp 20, .const (.string (.mk (#[76, 79, 72, 84])))], .some 21))] []) (.seq
  (.reg [(none, (.mov (.tmp 3), .some 23)), (none, (.call (.func 55) [.tmp 23], .some 24)), (none, (.mov (.tmp 24), .some 22)), (none, (.ext (.tmp 22) 0, .some 25)), (none, (.ext (.tmp 22) 1, .some 26)), (none, (.mov (.tmp 25), .some 5)), (none, (.mov (.tmp 26), .some 6))] []) (.seq
  (.reg [(none, (.mov (.tmp 5), .some 27)), (none, (.mov (.tmp 27), .some 2))] []) .ret)))))))
theorem b91 : Try.f91.body.bind (compC Try.prog) = some c91 := by kernel_rfl
theorem r91 : compR Try.prog Try.f91 = .some [.tmp 2] := by kernel_rfl
theorem n91 : (Try.f91.name == "runtime.NumGoroutine") = false := by kernel_rfl
def c102 : C := .seq
  (.reg [(none, (.box (.tmp 0), .some 1)), (none, (.mov (.const (.bool .false)), .some 2))] []) (.seq
  (.reg [(none, (.fadr 0 (.tmp 1), .some 3)), (none, (.load none (.tmp 3), .some 4)), (none, (.bin .eql (.tmp 4) (.const (.int .i64 0)), .some 5)), (none, (.mov (.tmp 5), .some 2))] []) .ret)
theorem b102 : Try.f102.body.bind (compC Try.prog) = some c102 := by kernel_rfl
theorem r102 : compR Try.prog Try.f102 = .some [.tmp 2] := by kernel_rfl
theorem n102 : (Try.f102.name == "runtime.NumGoroutine") = false := by kernel_rfl
def c108 : C := .seq
  (.reg [(none, (.box (.tmp 0), .some 1)), (none, (.new [.slice none 0 0, .int .i64 0, .int .i64 0, .int .i64 0], .some 2))] []) (.seq (.seq
  (.reg [(none, (.fadr 1 (.tmp 1), .some 3)), (none, (.load none (.tmp 3), .some 4)), (none, (.fadr 0 (.tmp 1), .some 5)), (none, (.load none (.tmp 5), .some 6)), (none, (.len .false (.tmp 6), .some 7)), (none, (.bin .lss (.tmp 4) (.tmp 7), .some 8))] []) (.cond (.tmp 8) (.seq
  (.reg [(none, (.load (.some 4) (.tmp 1), .some 9)), (none, (.fadr 1 (.tmp 1), .some 10)), (none, (.load none (.tmp 10), .some 11)), (none, (.call (.func 104) [.tmp 9, .const (.int .i64 9), .tmp 11], .some 12)), (none, (.store 4 (.tmp 2) (.tmp 12), none))] []) .ret) .skip)) (.seq
  (.reg [(none, (.load (.some 4) (.tmp 1), .some 13)), (none, (.store 4 (.tmp 2) (.tmp 13), none))] []) .ret))
theorem b108 : Try.f108.body.bind (compC Try.prog) = some c108 := by kernel_rfl
theorem r108 : compR Try.prog Try.f108 = .some [.cell 2 (.some 4)] := by kernel_rfl
theorem n108 : (Try.f108.name == "runtime.NumGoroutine") = false := by kernel_rfl
def c110 : C := .seq
  (.reg [(none, (.mov (.const (.slice none 0 0)), .some 2))] []) (.seq (.seq
  (.reg [(none, (.mov (.tmp 0), .some 3)), (none, (.bin .lss (.tmp 3) (.const (.int .u64 128)), .some 4))] []) (.cond (.tmp 4) (.seq
  (.reg [(none, (.mov (.tmp 0), .some 5)), (none, (.cvt .u8 (.tmp 5), .some 6)), (none, (.bsl 1 [.tmp 6], .some 7)), (none, (.mov (.tmp 7), .some 2))] []) .ret) .skip)) (.seq
  (.reg [(none, (.mov (.tmp 0), .some 8)), (none, (.bin .rem (.tmp 8) (.const (.int .u64 128)), .some 9)), (none, (.bin .add (.const (.int .u64 128)) (.tmp 9), .some 10)), (none, (.cvt .u8 (.tmp 10), .some 11)), (none, (.bsl 1 [.tmp 11], .some 12)), (none, (.mov (.tmp 0), .some 13)), (none, (.bin .quo (.tmp 13) (.const (.int .u64 128)), .some 14)), (none, (.call (.func 110) [.tmp 14], .some 15)), (none, (.app 1 1 (.tmp 12) (.tmp 15), .some 16)), (none, (.mov (.tmp 16), .some 2))] []) .ret))
theorem b110 : Try.f110.body.bind (compC Try.prog) = some c110 := by kernel_rfl
theorem r110 : compR Try.prog Try.f110 = .some [.tmp 2] := by kernel_rfl
theorem n110 : (Try.f110.name == "runtime.NumGoroutine") = false := by kernel_rfl
def c124 : C := .seq
  (.reg [(none, (.new [.int .i64 0, .int .i64 0], .some 4))] []) (.seq (.seq
  (.reg [(none, (.mov (.tmp 0), .some 5)), (none, (.bin .eql (.tmp 5) (.const (.int .i64 0)), .some 6))] []) (.cond (.tmp 6) (.seq
  (.reg [(none, (.build [.int .i64 0, .int .i64 0] [], .some 7)), (none, (.store 2 (.tmp 4) (.tmp 7), none))] []) .ret) .skip)) (.seq
  (.reg [(none, (.mov (.tmp 0), .some 8)), (none, (.mov (.tmp 1), .some 9)), (none, (.build [.int .i64 0, .int .i64 0] [(0, (1, .tmp 8)), (1, (1, .tmp 9))], .some 10)), (none, (.store 2 (.tmp 4) (.tmp 10), none))] []) .ret))
theorem b124 : Try.f124.body.bind (compC Try.prog) = some c124 := by kernel_rfl
theorem r124 : compR Try.prog Try.f124 = .some [.cell 4 (.some 2)] := by kernel_rfl
theorem n124 : (Try.f124.name == "runtime.NumGoroutine") = false := by kernel_rfl
def c143 : C := .seq
  (.reg [(none, (.mov (.const (.bool .false)), .some 2))] []) (.seq
  (.reg [(none, (.mov (.tmp 0), .some 3)), (none, (.bin .geq (.tmp 3) (.const (.int .u64 1)), .some 4)), (none, (.mov (.tmp 4), .some 5)), (.some (5, .true), (.mov (.tmp 0), .some 6)), (.some (5, .true), (.bin .lss (.tmp 6) (.const (.int .u64 4611686018427387904)), .some 7)), (none, (.pick (.tmp 5) (.tmp 7) (.const (.bool .false)), .some 8)), (none, (.mov (.tmp 8), .some 2))] []) .ret)
theorem b143 : Try.f143.body.bind (compC Try.prog) = some c143 := by kernel_rfl
theorem r143 : compR Try.prog Try.f143 = .some [.tmp 2] := by kernel_rfl
theorem n143 : (Try.f143.name == "runtime.NumGoroutine") = false := by kernel_rfl
def c161 : C := .seq
  (.reg [(none, (.box (.tmp 0), .some 1)), (none, (.mov (.const (.bool .false)), .some 2))] []) (.seq (.seq
  (.reg [(none, (.fadr 1 (.tmp 1), .some 3)), (none, (.load none (.tmp 3), .some 4)), (none, (.bin .eql (.tmp 4) (.const (.int .i64 0)), .some 5))] []) (.cond (.tmp 5) (.seq
  (.reg [(none, (.fadr 3 (.tmp 1), .some 6)), (none, (.load none (.tmp 6), .some 7)), (none, (.bin .eql (.tmp 7) (.const (.int .u64 0)), .some 8)), (none, (.mov (.tmp 8), .some 9)), (.some (9, .true), (.fadr 4 (.tmp 1), .some 10)), (.some (9, .true), (.load none (.tmp 10), .some 11)), (.some (9, .true), (.bin .eql (.tmp 11) (.const (.int .u64 0)), .some 12)), (none, (.pick (.tmp 9) (.tmp 12) (.const (.bool .false)), .some 13)), (none, (.mov (.tmp 13), .some 2))] []) .ret) .skip)) (.seq
  (.reg [(none, (.fadr 3 (.tmp 1), .some 14)), (none, (.load none (.tmp 14), .some 15)), (none, (.fadr 4 (.tmp 1), .some 16)), (none, (.load none (.tmp 16), .some 17)), (none, (.bin .lss (.tmp 15) (.tmp 17), .some 18)), (none, (.mov (.tmp 18), .some 19)), (.some (19, .true), (.fadr 4 (.tmp 1), .some 20)), (.some (19, .true), (.load none (.tmp 20), .some 21)), (.some (19, .true), (.bin .leq (.tmp 21) (.const (.int .u64 4611686018427387904)), .some 22)), (none, (.pick (.tmp 19) (.tmp 22) (.const (.bool .false)), .some 23)), (none, (.mov (.tmp 23), .some 24)), (.some (24, .true), (.fadr 4 (.tmp 1), .some 25)), (.some (24, .true), (.load none (.tmp 25), .some 26)), (.some (24, .true), (.fadr 3 (.tmp 1), .some 27)), (.some (24, .true), (.load none (.tmp 27), .some 28)), (.some (24, .true), (.bin .sub (.tmp 26) (.tmp 28), .some 29)), (.some (24, .true), (.fadr 2 (.tmp 1), .some 30)), (.some (24, .true), (.load none (.tmp 30), .some 31)), (.some (24, .true), (.cvt .u64 (.tmp 31), .some 32)), (.some (24, .true), (.bin .geq (.tmp 29) (.tmp 32), .some 33)), (none, (.pick (.tmp 24) (.tmp 33) (.const (.bool .false)), .some 34)), (none, (.mov (.tmp 34), .some 2))] []) .ret))
theorem b161 : Try.f161.body.bind (compC Try.prog) = some c161 := by kernel_rfl
theorem r161 : compR Try.prog Try.f161 = .some [.tmp 2] := by kernel_rfl
theorem n161 : (Try.f161.name == "runtime.NumGoroutine") = false := by kernel_rfl
def c177 : C := .seq
  (.reg [(none, (.mov (.const (.int .u32 0)), .some 0))] []) (.seq
  (.reg [(none, (.mov (.const (.int .u32 4294967295)), .some 0))] []) .ret)
theorem b177 : Try.f177.body.bind (compC Try.prog) = some c177 := by kernel_rfl
theorem r177 : compR Try.prog Try.f177 = .some [.tmp 0] := by kernel_rfl
theorem n177 : (Try.f177.name == "runtime.NumGoroutine") = false := by kernel_rfl
end Go.Proofs.Ytkhnfleejgfhgaa
