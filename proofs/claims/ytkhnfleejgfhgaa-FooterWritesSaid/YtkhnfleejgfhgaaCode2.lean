/-
  The codes of the seat's functions over abstract values, each shown to be its function's own (by program: wip/tools/codes.py).
-/
import Derived.Test.YtkhnfleejgfhgaaA2
import Derived.Test.YtkhnfleejgfhgaaProg
import Derived.KernelRfl
namespace Go.Proofs.Ytkhnfleejgfhgaa
def c32 : C := .seq
  (.reg [(none, (.mov (.const (.bool .false)), .some 0))] []) (.seq
  (.reg [(none, (.call (.func 91) [.const (.int .i64 9)], .some 2)), (none, (.mov (.tmp 2), .some 1))] []) (.seq
  (.reg [(none, (.mov (.tmp 1), .some 3)), (none, (.len .false (.tmp 3), .some 4)), (none, (.bin .eql (.tmp 4) (.const (.int .i64 12)), .some 5)), (none, (.mov (.tmp 5), .some 6)), (.some (6, .true), (.call (.func 95) [], .some 7)), (.some (6, .true), (.bin .eql (.tmp 7) (.const (.int .i64 12)), .some 8)), (none, (.pick (.tmp 6) (.tmp 8) (.const (.bool .false)), .some 9)), (none, (.mov (.tmp 9), .some 10)), (.some (10, .true), (.mov (.tmp 1), .some 11)), (.some (10, .true), (.slice 1 (.tmp 11) none (.some (.const (.int .i64 4))) none, .some 12)), (.some (10, .true), (.bsl 1 [.const (.int .u8 9), .const (.int .u8 0), .const (.int .u8 0), .const (.int .u8 0)], .some 13)), (.some (10, .true), (.call (.func 23) [.tmp 12, .tmp 13], .some 14)), (none, (.pick (.tmp 10) (.tmp 14) (.const (.bool .false)), .some 15)), (none, (.mov (.tmp 15), .some 16)), (.some (16, .true), (.mov (.tmp 1), .some 17)), (.some (16, .true), (.slice 1 (.tmp 17) (.some (.const (.int .i64 8))) none none, .some 18)), (.some (16, .true), (.b2s (.tmp 18), .some 19)), (.some (16, .true), (.bin .eql (.tmp 19) (.const (.string (.mk (#[76, 79, 72, 84])))), .some 20)), (none, (.pick (.tmp 16) (.tmp 20) (.const (.bool .false)), .some 21)), (none, (.mov (.tmp 21), .some 22)), (none, (.pick (.tmp 22) (.const (.bool .true)) (.const (.bool .false)), .some 23)), (none, (.mov (.tmp 23), .some 0))] []) .ret))
theorem b32 : Try.f32.body.bind (compC Try.prog) = some c32 := by kernel_rfl
theorem r32 : compR Try.prog Try.f32 = .some [.tmp 0] := by kernel_rfl
theorem n32 : (Try.f32.name == "runtime.NumGoroutine") = false := by kernel_rfl
def c35 : C := .seq
  (.reg [(none, (.box (.tmp 0), .some 1)), (none, (.new [.int .u64 0, .int .i64 0, .int .i64 0, .int .u64 0, .int .u64 0, .int .i64 0, .int .i64 0], .some 2))] []) (.seq
  (.reg [(none, (.fadr 0 (.tmp 1), .some 3)), (none, (.load none (.tmp 3), .some 4)), (none, (.fadr 1 (.tmp 1), .some 5)), (none, (.load none (.tmp 5), .some 6)), (none, (.fadr 2 (.tmp 1), .some 7)), (none, (.load none (.tmp 7), .some 8)), (none, (.fadr 3 (.tmp 1), .some 9)), (none, (.load none (.tmp 9), .some 10)), (none, (.fadr 4 (.tmp 1), .some 11)), (none, (.load none (.tmp 11), .some 12)), (none, (.fadr 5 (.tmp 1), .some 13)), (none, (.load none (.tmp 13), .some 14)), (none, (.fadr 6 (.tmp 1), .some 15)), (none, (.load none (.tmp 15), .some 16)), (none, (.build [.int .u64 0, .int .i64 0, .int .i64 0, .int .u64 0, .int .u64 0, .int .i64 0, .int .i64 0] [(0, (1, .tmp 4)), (1, (1, .tmp 6)), (2, (1, .tmp 8)), (3, (1, .tmp 10)), (4, (1, .tmp 12)), (5, (1, .tmp 14)), (6, (1, .tmp 16))], .some 17)), (none, (.store 7 (.tmp 2) (.tmp 17), none))] []) .ret)
theorem b35 : Try.f35.body.bind (compC Try.prog) = some c35 := by kernel_rfl
theorem r35 : compR Try.prog Try.f35 = .some [.cell 2 (.some 7)] := by kernel_rfl
theorem n35 : (Try.f35.name == "runtime.NumGoroutine") = false := by kernel_rfl
def c36 : C := .seq
  (.reg [(none, (.box (.tmp 0), .some 1)), (none, (.mov (.const (.bool .false)), .some 2))] []) (.seq (.seq
  (.reg [(none, (.fadr 0 (.tmp 1), .some 3)), (none, (.load none (.tmp 3), .some 4)), (none, (.call (.func 109) [.tmp 4], .some 5)), (none, (.un .not (.tmp 5), .some 6)), (none, (.mov (.tmp 6), .some 7)), (.some (7, .false), (.fadr 1 (.tmp 1), .some 8)), (.some (7, .false), (.load none (.tmp 8), .some 9)), (.some (7, .false), (.bin .lss (.tmp 9) (.const (.int .i64 0)), .some 10)), (none, (.pick (.tmp 7) (.const (.bool .true)) (.tmp 10), .some 11)), (none, (.mov (.tmp 11), .some 12)), (.some (12, .false), (.fadr 1 (.tmp 1), .some 13)), (.some (12, .false), (.load none (.tmp 13), .some 14)), (.some (12, .false), (.bin .gtr (.tmp 14) (.const (.int .i64 16)), .some 15)), (none, (.pick (.tmp 12) (.const (.bool .true)) (.tmp 15), .some 16)), (none, (.mov (.tmp 16), .some 17)), (.some (17, .false), (.fadr 2 (.tmp 1), .some 18)), (.some (17, .false), (.load none (.tmp 18), .some 19)), (.some (17, .false), (.fadr 1 (.tmp 1), .some 20)), (.some (17, .false), (.load none (.tmp 20), .some 21)), (.some (17, .false), (.bin .lss (.tmp 19) (.tmp 21), .some 22)), (none, (.pick (.tmp 17) (.const (.bool .true)) (.tmp 22), .some 23)), (none, (.mov (.tmp 23), .some 24)), (.some (24, .false), (.fadr 2 (.tmp 1), .some 25)), (.some (24, .false), (.load none (.tmp 25), .some 26)), (.some (24, .false), (.fadr 1 (.tmp 1), .some 27)), (.some (24, .false), (.load none (.tmp 27), .some 28)), (.some (24, .false), (.bin .mul (.const (.int .i64 16)) (.tmp 28), .some 29)), (.some (24, .false), (.bin .gtr (.tmp 26) (.tmp 29), .some 30)), (none, (.pick (.tmp 24) (.const (.bool .true)) (.tmp 30), .some 31))] []) (.cond (.tmp 31) (.seq
  (.reg [(none, (.mov (.const (.bool .false)), .some 2))] []) .ret) .skip)) (.seq (.seq
  (.reg [(none, (.fadr 5 (.tmp 1), .some 32)), (none, (.load none (.tmp 32), .some 33)), (none, (.bin .lss (.tmp 33) (.const (.int .i64 1)), .some 34)), (none, (.mov (.tmp 34), .some 35)), (.some (35, .false), (.fadr 5 (.tmp 1), .some 36)), (.some (35, .false), (.load none (.tmp 36), .some 37)), (.some (35, .false), (.bin .gtr (.tmp 37) (.const (.int .i64 1099511627775)), .some 38)), (none, (.pick (.tmp 35) (.const (.bool .true)) (.tmp 38), .some 39)), (none, (.mov (.tmp 39), .some 40)), (.some (40, .false), (.fadr 6 (.tmp 1), .some 41)), (.some (40, .false), (.load none (.tmp 41), .some 42)), (.some (40, .false), (.bin .lss (.tmp 42) (.const (.int .i64 1)), .some 43)), (none, (.pick (.tmp 40) (.const (.bool .true)) (.tmp 43), .some 44)), (none, (.mov (.tmp 44), .some 45)), (.some (45, .false), (.fadr 6 (.tmp 1), .some 46)), (.some (45, .false), (.load none (.tmp 46), .some 47)), (.some (45, .false), (.bin .gtr (.tmp 47) (.const (.int .i64 2097152)), .some 48)), (none, (.pick (.tmp 45) (.const (.bool .true)) (.tmp 48), .some 49))] []) (.cond (.tmp 49) (.seq
  (.reg [(none, (.mov (.const (.bool .false)), .some 2))] []) .ret) .skip)) (.seq (.seq
  (.reg [(none, (.fadr 1 (.tmp 1), .some 50)), (none, (.load none (.tmp 50), .some 51)), (none, (.bin .eql (.tmp 51) (.const (.int .i64 0)), .some 52))] []) (.cond (.tmp 52) (.seq
  (.reg [(none, (.fadr 3 (.tmp 1), .some 53)), (none, (.load none (.tmp 53), .some 54)), (none, (.bin .eql (.tmp 54) (.const (.int .u64 0)), .some 55)), (none, (.mov (.tmp 55), .some 56)), (.some (56, .true), (.fadr 4 (.tmp 1), .some 57)), (.some (56, .true), (.load none (.tmp 57), .some 58)), (.some (56, .true), (.bin .eql (.tmp 58) (.const (.int .u64 0)), .some 59)), (none, (.pick (.tmp 56) (.tmp 59) (.const (.bool .false)), .some 60)), (none, (.mov (.tmp 60), .some 2))] []) .ret) .skip)) (.seq
  (.reg [(none, (.fadr 3 (.tmp 1), .some 61)), (none, (.load none (.tmp 61), .some 62)), (none, (.fadr 4 (.tmp 1), .some 63)), (none, (.load none (.tmp 63), .some 64)), (none, (.bin .lss (.tmp 62) (.tmp 64), .some 65)), (none, (.mov (.tmp 65), .some 66)), (.some (66, .true), (.fadr 4 (.tmp 1), .some 67)), (.some (66, .true), (.load none (.tmp 67), .some 68)), (.some (66, .true), (.bin .leq (.tmp 68) (.const (.int .u64 4611686018427387904)), .some 69)), (none, (.pick (.tmp 66) (.tmp 69) (.const (.bool .false)), .some 70)), (none, (.mov (.tmp 70), .some 71)), (.some (71, .true), (.fadr 4 (.tmp 1), .some 72)), (.some (71, .true), (.load none (.tmp 72), .some 73)), (.some (71, .true), (.fadr 3 (.tmp 1), .some 74)), (.some (71, .true), (.load none (.tmp 74), .some 75)), (.some (71, .true), (.bin .sub (.tmp 73) (.tmp 75), .some 76)), (.some (71, .true), (.fadr 2 (.tmp 1), .some 77)), (.some (71, .true), (.load none (.tmp 77), .some 78)), (.some (71, .true), (.cvt .u64 (.tmp 78), .some 79)), (.some (71, .true), (.bin .geq (.tmp 76) (.tmp 79), .some 80)), (none, (.pick (.tmp 71) (.tmp 80) (.const (.bool .false)), .some 81)), (none, (.mov (.tmp 81), .some 2))] []) .ret))))
theorem b36 : Try.f36.body.bind (compC Try.prog) = some c36 := by kernel_rfl
theorem r36 : compR Try.prog Try.f36 = .some [.tmp 2] := by kernel_rfl
theorem n36 : (Try.f36.name == "runtime.NumGoroutine") = false := by kernel_rfl
def c48 : C := .seq
  (.reg [(none, (.new [.int .i64 0, .int .i64 0], .some 2))] []) (.seq (.seq
  (.reg [(none, (.mov (.tmp 0), .some 3)), (none, (.eqp .false (.tmp 3) (.const (.pointer none)), .some 4))] []) (.cond (.tmp 4) (.seq
  (.reg [(none, (.call (.func 124) [.const (.int .i64 19), .const (.int .i64 0)], .some 5)), (none, (.store 2 (.tmp 2) (.tmp 5), none))] []) .ret) .skip)) (.seq
  (.reg [(none, (.mov (.tmp 0), .some 6)), (none, (.nilc (.tmp 6), .some 7)), (none, (.fadr 2 (.tmp 7), .some 8)), (none, (.load (.some 2) (.tmp 8), .some 9)), (none, (.store 2 (.tmp 2) (.tmp 9), none))] []) .ret))
theorem b48 : Try.f48.body.bind (compC Try.prog) = some c48 := by kernel_rfl
theorem r48 : compR Try.prog Try.f48 = .some [.cell 2 (.some 2)] := by kernel_rfl
theorem n48 : (Try.f48.name == "runtime.NumGoroutine") = false := by kernel_rfl
def c88 : C := .seq
  (.reg [(none, (.box (.tmp 0), .some 1)), (none, (.mov (.const (.slice none 0 0)), .some 2)), (none, (.mov (.const (.int .i64 0)), .some 3))] []) (.seq
  (.reg [(none, (.load (.some 7) (.tmp 1), .some 8)), (none, (.call (.func 89) [.tmp 8], .some 9)), (none, (.mov (.tmp 9), .some 7)), (none, (.ext (.tmp 7) 0, .some 10)), (none, (.ext (.tmp 7) 1, .some 11)), (none, (.mov (.tmp 10), .some 4)), (none, (.mov (.tmp 11), .some 5))] []) (.seq (.seq
  (.reg [(none, (.mov (.tmp 5), .some 12)), (none, (.bin .neq (.tmp 12) (.const (.int .i64 0)), .some 13))] []) (.cond (.tmp 13) (.seq
  (.reg [(none, (.mov (.tmp 5), .some 14)), (none, (.mov (.const (.slice none 0 0)), .some 2)), (none, (.mov (.tmp 14), .some 3))] []) .ret) .skip)) (.seq
  (.reg [(none, (.mov (.tmp 4), .some 16)), (none, (.call (.func 159) [.tmp 16], .some 17)), (none, (.mov (.tmp 17), .some 15)), (none, (.ext (.tmp 15) 0, .some 18)), (none, (.ext (.tmp 15) 1, .some 19)), (none, (.mov (.tmp 18), .some 6)), (none, (.mov (.tmp 19), .some 5))] []) (.seq
  (.reg [(none, (.mov (.tmp 6), .some 20)), (none, (.mov (.tmp 6), .some 21)), (none, (.len .false (.tmp 21), .some 22)), (none, (.call (.func 91) [.tmp 22], .some 23)), (none, (.app 1 1 (.tmp 20) (.tmp 23), .some 24)), (none, (.mov (.tmp 5), .some 25)), (none, (.mov (.tmp 24), .some 2)), (none, (.mov (.tmp 25), .some 3))] []) .ret))))
theorem b88 : Try.f88.body.bind (compC Try.prog) = some c88 := by kernel_rfl
theorem r88 : compR Try.prog Try.f88 = .some [.tmp 2, .tmp 3] := by kernel_rfl
theorem n88 : (Try.f88.name == "runtime.NumGoroutine") = false := by kernel_rfl
def c96 : C := .seq
  (.reg [(none, (.mov (.const (.int .u8 0)), .some 2))] []) (.seq (.seq
  (.reg [(none, (.mov (.tmp 0), .some 3)), (none, (.call (.func 78) [.tmp 3, .const (.int .i64 1)], .some 4)), (none, (.un .not (.tmp 4), .some 5))] []) (.cond (.tmp 5) (.seq
  (.reg [(none, (.mov (.const (.int .u8 0)), .some 2))] []) .ret) .skip)) (.seq
  (.reg [(none, (.mov (.tmp 0), .some 6)), (none, (.nilc (.tmp 6), .some 7)), (none, (.fadr 0 (.tmp 7), .some 8)), (none, (.load none (.tmp 8), .some 9)), (none, (.mov (.tmp 0), .some 10)), (none, (.nilc (.tmp 10), .some 11)), (none, (.fadr 1 (.tmp 11), .some 12)), (none, (.load none (.tmp 12), .some 13)), (none, (.bin .sub (.tmp 13) (.const (.int .i64 1)), .some 14)), (none, (.iadr 1 (.tmp 9) (.tmp 14), .some 15)), (none, (.load none (.tmp 15), .some 16)), (none, (.mov (.tmp 16), .some 2))] [(3, 7)]) .ret))
theorem b96 : Try.f96.body.bind (compC Try.prog) = some c96 := by kernel_rfl
theorem r96 : compR Try.prog Try.f96 = .some [.tmp 2] := by kernel_rfl
theorem n96 : (Try.f96.name == "runtime.NumGoroutine") = false := by kernel_rfl
def c98 : C := .seq
  (.reg [(none, (.mov (.const (.int .u64 0)), .some 2))] []) (.seq
  (.reg [(none, (.mov (.tmp 0), .some 3)), (none, (.call (.func 164) [.tmp 3, .func 143], .some 4)), (none, (.mov (.tmp 4), .some 2))] []) .ret)
theorem b98 : Try.f98.body.bind (compC Try.prog) = some c98 := by kernel_rfl
theorem r98 : compR Try.prog Try.f98 = .some [.tmp 2] := by kernel_rfl
theorem n98 : (Try.f98.name == "runtime.NumGoroutine") = false := by kernel_rfl
def c100 : C := .seq
  (.reg [(none, (.mov (.const (.int .u64 0)), .some 2))] []) (.scope (.seq
  (.reg [(none, (.mov (.const (.int .u64 0)), .some 3))] []) (.seq
  (.reg [(none, (.mov (.const (.int .u8 0)), .some 4))] []) (.seq
  (.reg [(none, (.mov (.tmp 0), .some 7)), (none, (.call (.func 49) [.tmp 7], .some 8)), (none, (.mov (.const (.int .i64 0)), .some 5)), (none, (.mov (.tmp 8), .some 6))] []) (.seq (.label 0) (.seq
  (.reg [(none, (.mov (.tmp 0), .some 9)), (none, (.call (.func 96) [.tmp 9], .some 10)), (none, (.mov (.tmp 10), .some 4))] []) (.seq (.block 0 (.seq
  (.reg [(none, (.mov (.tmp 0), .some 12)), (none, (.call (.func 57) [.tmp 12], .some 13)), (none, (.un .not (.tmp 13), .some 14)), (none, (.mov (.tmp 14), .some 11))] []) (.cond (.tmp 11) (.seq
  (.reg [(none, (.mov (.const (.int .u64 0)), .some 2))] []) .ret) (.seq
  (.reg [(none, (.mov (.tmp 5), .some 16)), (none, (.bin .eql (.tmp 16) (.const (.int .i64 63)), .some 17)), (none, (.mov (.tmp 17), .some 18)), (.some (18, .true), (.mov (.tmp 4), .some 19)), (.some (18, .true), (.bin .gtr (.tmp 19) (.const (.int .u8 1)), .some 20)), (none, (.pick (.tmp 18) (.tmp 20) (.const (.bool .false)), .some 21)), (none, (.mov (.tmp 21), .some 15))] []) (.cond (.tmp 15) (.seq
  (.reg [(none, (.mov (.tmp 0), .some 22)), (none, (.mov (.tmp 0), .some 23)), (none, (.call (.func 49) [.tmp 23], .some 24)), (none, (.bin .sub (.tmp 24) (.const (.int .i64 1)), .some 25)), (none, (.call (.func 97) [.tmp 22, .const (.int .i64 5), .tmp 25], .some 26))] []) (.seq
  (.reg [(none, (.mov (.const (.int .u64 0)), .some 2))] []) .ret)) (.seq
  (.reg [(none, (.mov (.tmp 4), .some 28)), (none, (.bin .eql (.tmp 28) (.const (.int .u8 0)), .some 29)), (none, (.mov (.tmp 29), .some 30)), (.some (30, .true), (.mov (.tmp 0), .some 31)), (.some (30, .true), (.call (.func 49) [.tmp 31], .some 32)), (.some (30, .true), (.bin .sub (.tmp 32) (.const (.int .i64 1)), .some 33)), (.some (30, .true), (.mov (.tmp 6), .some 34)), (.some (30, .true), (.bin .gtr (.tmp 33) (.tmp 34), .some 35)), (none, (.pick (.tmp 30) (.tmp 35) (.const (.bool .false)), .some 36)), (none, (.mov (.tmp 36), .some 27))] []) (.cond (.tmp 27) (.seq
  (.reg [(none, (.mov (.tmp 0), .some 37)), (none, (.mov (.tmp 0), .some 38)), (none, (.call (.func 49) [.tmp 38], .some 39)), (none, (.bin .sub (.tmp 39) (.const (.int .i64 1)), .some 40)), (none, (.call (.func 97) [.tmp 37, .const (.int .i64 4), .tmp 40], .some 41))] []) (.seq
  (.reg [(none, (.mov (.const (.int .u64 0)), .some 2))] []) .ret)) .skip))))))) (.seq
  (.reg [(none, (.mov (.tmp 3), .some 42)), (none, (.mov (.tmp 4), .some 43)), (none, (.bin .rem (.tmp 43) (.const (.int .u8 128)), .some 44)), (none, (.cvt .u64 (.tmp 44), .some 45)), (none, (.mov (.tmp 5), .some 46)), (none, (.bin .shl (.tmp 45) (.tmp 46), .some 47)), (none, (.bin .or (.tmp 42) (.tmp 47), .some 48)), (none, (.mov (.tmp 48), .some 3))] []) (.seq
  (.reg [(none, (.mov (.tmp 5), .some 49)), (none, (.bin .add (.tmp 49) (.const (.int .i64 7)), .some 50)), (none, (.mov (.tmp 50), .some 5))] []) (.seq (.seq
  (.reg [(none, (.mov (.tmp 4), .some 51)), (none, (.bin .geq (.tmp 51) (.const (.int .u8 128)), .some 52))] []) (.cond (.tmp 52) (.goto 0) .skip)) (.seq
  (.reg [(none, (.mov (.tmp 3), .some 53)), (none, (.mov (.tmp 53), .some 2))] []) .ret)))))))))))
theorem b100 : Try.f100.body.bind (compC Try.prog) = some c100 := by kernel_rfl
theorem r100 : compR Try.prog Try.f100 = .some [.tmp 2] := by kernel_rfl
theorem n100 : (Try.f100.name == "runtime.NumGoroutine") = false := by kernel_rfl
def c102 : C := .seq
  (.reg [(none, (.box (.tmp 0), .some 1)), (none, (.mov (.const (.bool .false)), .some 2))] []) (.seq
  (.reg [(none, (.fadr 0 (.tmp 1), .some 3)), (none, (.load none (.tmp 3), .some 4)), (none, (.bin .eql (.tmp 4) (.const (.int .i64 0)), .some 5)), (none, (.mov (.tmp 5), .some 2))] []) .ret)
theorem b102 : Try.f102.body.bind (compC Try.prog) = some c102 := by kernel_rfl
theorem r102 : compR Try.prog Try.f102 = .some [.tmp 2] := by kernel_rfl
theorem n102 : (Try.f102.name == "runtime.NumGoroutine") = false := by kernel_rfl
def c124 : C := .seq
  (.reg [(none, (.new [.int .i64 0, .int .i64 0], .some 4))] []) (.seq (.seq
  (.reg [(none, (.mov (.tmp 0), .some 5)), (none, (.bin .eql (.tmp 5) (.const (.int .i64 0)), .some 6))] []) (.cond (.tmp 6) (.seq
  (.reg [(none, (.build [.int .i64 0, .int .i64 0] [], .some 7)), (none, (.store 2 (.tmp 4) (.tmp 7), none))] []) .ret) .skip)) (.seq
  (.reg [(none, (.mov (.tmp 0), .some 8)), (none, (.mov (.tmp 1), .some 9)), (none, (.build [.int .i64 0, .int .i64 0] [(0, (1, .tmp 8)), (1, (1, .tmp 9))], .some 10)), (none, (.store 2 (.tmp 4) (.tmp 10), none))] []) .ret))
theorem b124 : Try.f124.body.bind (compC Try.prog) = some c124 := by kernel_rfl
theorem r124 : compR Try.prog Try.f124 = .some [.cell 4 (.some 2)] := by kernel_rfl
theorem n124 : (Try.f124.name == "runtime.NumGoroutine") = false := by kernel_rfl
def c126 : C := .seq
  (.reg [(none, (.mov (.tmp 0), .some 4)), (none, (.call (.func 130) [.tmp 4], .some 5)), (none, (.bin .eql (.tmp 5) (.const (.int .i64 0)), .some 6))] []) (.cond (.tmp 6)
  (.reg [(none, (.mov (.tmp 0), .some 7)), (none, (.mov (.tmp 1), .some 8)), (none, (.nilc (.tmp 7), .some 9)), (none, (.fadr 2 (.tmp 9), .some 10)), (none, (.store 1 (.tmp 10) (.tmp 8), none))] []) .skip)
theorem b126 : Try.f126.body.bind (compC Try.prog) = some c126 := by kernel_rfl
theorem r126 : compR Try.prog Try.f126 = .some [] := by kernel_rfl
theorem n126 : (Try.f126.name == "runtime.NumGoroutine") = false := by kernel_rfl
def c143 : C := .seq
  (.reg [(none, (.mov (.const (.bool .false)), .some 2))] []) (.seq
  (.reg [(none, (.mov (.tmp 0), .some 3)), (none, (.bin .geq (.tmp 3) (.const (.int .u64 1)), .some 4)), (none, (.mov (.tmp 4), .some 5)), (.some (5, .true), (.mov (.tmp 0), .some 6)), (.some (5, .true), (.bin .lss (.tmp 6) (.const (.int .u64 4611686018427387904)), .some 7)), (none, (.pick (.tmp 5) (.tmp 7) (.const (.bool .false)), .some 8)), (none, (.mov (.tmp 8), .some 2))] []) .ret)
theorem b143 : Try.f143.body.bind (compC Try.prog) = some c143 := by kernel_rfl
theorem r143 : compR Try.prog Try.f143 = .some [.tmp 2] := by kernel_rfl
theorem n143 : (Try.f143.name == "runtime.NumGoroutine") = false := by kernel_rfl
def c162 : C := .seq
  (.reg [(none, (.mov (.const (.slice none 0 0)), .some 4))] []) (.seq
  (.reg [(none, (.mov (.const (.slice none 0 0)), .some 5))] []) (.seq (.seq
  (.reg [(none, (.mov (.tmp 1), .some 6)), (none, (.mx .true (.tmp 6) (.const (.int .i64 0)), .some 7)), (none, (.mx .false (.tmp 7) (.const (.int .i64 8)), .some 8)), (none, (.mov (.const (.int .i64 0)), .some 9))] []) (.block 0 (.loop (.seq
  (.reg [(none, (.bin .lss (.tmp 9) (.tmp 8), .some 10))] []) (.seq (.cond (.tmp 10) .skip (.exit 0)) (.seq (.block 1 (.seq
  (.reg [(none, (.mov (.tmp 5), .some 11)), (none, (.mov (.tmp 0), .some 12)), (none, (.bin .rem (.tmp 12) (.const (.int .u64 256)), .some 13)), (none, (.cvt .u8 (.tmp 13), .some 14)), (none, (.bsl 1 [.tmp 14], .some 15)), (none, (.app 1 1 (.tmp 11) (.tmp 15), .some 16)), (none, (.mov (.tmp 16), .some 5))] [])
  (.reg [(none, (.mov (.tmp 0), .some 17)), (none, (.bin .quo (.tmp 17) (.const (.int .u64 256)), .some 18)), (none, (.mov (.tmp 18), .some 0))] [])))
  (.reg [(none, (.bin .add (.tmp 9) (.const (.int .i64 1)), .some 19)), (none, (.mov (.tmp 19), .some 9))] []))))))) (.seq
  (.reg [(none, (.mov (.tmp 5), .some 20)), (none, (.mov (.tmp 20), .some 4))] []) .ret)))
theorem b162 : Try.f162.body.bind (compC Try.prog) = some c162 := by kernel_rfl
theorem r162 : compR Try.prog Try.f162 = .some [.tmp 4] := by kernel_rfl
theorem n162 : (Try.f162.name == "runtime.NumGoroutine") = false := by kernel_rfl
def c163 : C := .reg [(none, (.mov (.tmp 0), .some 4)), (none, (.mov (.tmp 1), .some 5)), (none, (.s2b (.tmp 5), .some 6)), (none, (.call (.func 140) [.tmp 4, .tmp 6], .some 7))] []
theorem b163 : Try.f163.body.bind (compC Try.prog) = some c163 := by kernel_rfl
theorem r163 : compR Try.prog Try.f163 = .some [] := by kernel_rfl
theorem n163 : (Try.f163.name == "runtime.NumGoroutine") = false := by kernel_rfl
def c174 : C := .seq
  (.reg [(none, (.mov (.const (.int .i64 0)), .some 2))] []) (.seq (.seq
  (.reg [(none, (.mov (.tmp 0), .some 3)), (none, (.eqp .false (.tmp 3) (.const (.pointer none)), .some 4))] []) (.cond (.tmp 4) (.seq
  (.reg [(none, (.mov (.const (.int .i64 0)), .some 2))] []) .ret) .skip)) (.seq
  (.reg [(none, (.mov (.tmp 0), .some 5)), (none, (.nilc (.tmp 5), .some 6)), (none, (.fadr 0 (.tmp 6), .some 7)), (none, (.load none (.tmp 7), .some 8)), (none, (.mov (.tmp 0), .some 9)), (none, (.nilc (.tmp 9), .some 10)), (none, (.fadr 1 (.tmp 10), .some 11)), (none, (.load none (.tmp 11), .some 12)), (none, (.len .false (.tmp 12), .some 13)), (none, (.bin .sub (.tmp 8) (.tmp 13), .some 14)), (none, (.mov (.tmp 14), .some 2))] [(3, 7)]) .ret))
theorem b174 : Try.f174.body.bind (compC Try.prog) = some c174 := by kernel_rfl
theorem r174 : compR Try.prog Try.f174 = .some [.tmp 2] := by kernel_rfl
theorem n174 : (Try.f174.name == "runtime.NumGoroutine") = false := by kernel_rfl
def c176 : C := .seq
  (.reg [(none, (.mov (.const (.int .u32 0)), .some 4))] []) (.seq
  (.reg [(none, (.call (.func 188) [], .some 8)), (none, (.new [.int .u32 0, .int .u32 0, .int .u32 0, .int .u32 0, .int .u32 0, .int .u32 0, .int .u32 0, .int .u32 0, .int .u32 0, .int .u32 0, .int .u32 0, .int .u32 0, .int .u32 0, .int .u32 0, .int .u32 0, .int .u32 0], .some 5)), (none, (.store 16 (.tmp 5) (.tmp 8), none))] []) (.seq (.seq
  (.reg [(none, (.mov (.tmp 1), .some 9)), (none, (.len .false (.tmp 9), .some 10)), (none, (.mov (.const (.int .i64 0)), .some 11))] []) (.block 0 (.loop (.seq
  (.reg [(none, (.bin .lss (.tmp 11) (.tmp 10), .some 12))] []) (.seq (.cond (.tmp 12) .skip (.exit 0)) (.seq (.block 1 (.seq
  (.reg [(none, (.iadr 1 (.tmp 9) (.tmp 11), .some 13)), (none, (.load none (.tmp 13), .some 14)), (none, (.mov (.tmp 14), .some 7))] []) (.seq
  (.reg [(none, (.mov (.tmp 0), .some 15)), (none, (.mov (.tmp 7), .some 16)), (none, (.cvt .u32 (.tmp 16), .some 17)), (none, (.bin .xor (.tmp 15) (.tmp 17), .some 18)), (none, (.mov (.tmp 18), .some 0))] []) (.seq
  (.reg [(none, (.mov (.tmp 0), .some 19)), (none, (.bin .shr (.tmp 19) (.const (.int .u64 4)), .some 20)), (none, (.mov (.tmp 0), .some 21)), (none, (.bin .and (.tmp 21) (.const (.int .u32 15)), .some 22)), (none, (.aadr 16 1 (.tmp 5) (.tmp 22), .some 23)), (none, (.load none (.tmp 23), .some 24)), (none, (.bin .xor (.tmp 20) (.tmp 24), .some 25)), (none, (.mov (.tmp 25), .some 0))] [])
  (.reg [(none, (.mov (.tmp 0), .some 26)), (none, (.bin .shr (.tmp 26) (.const (.int .u64 4)), .some 27)), (none, (.mov (.tmp 0), .some 28)), (none, (.bin .and (.tmp 28) (.const (.int .u32 15)), .some 29)), (none, (.aadr 16 1 (.tmp 5) (.tmp 29), .some 30)), (none, (.load none (.tmp 30), .some 31)), (none, (.bin .xor (.tmp 27) (.tmp 31), .some 32)), (none, (.mov (.tmp 32), .some 0))] [])))))
  (.reg [(none, (.bin .add (.tmp 11) (.const (.int .i64 1)), .some 33)), (none, (.mov (.tmp 33), .some 11))] []))))))) (.seq
  (.reg [(none, (.mov (.tmp 0), .some 34)), (none, (.mov (.tmp 34), .some 4))] []) .ret)))
theorem b176 : Try.f176.body.bind (compC Try.prog) = some c176 := by kernel_rfl
theorem r176 : compR Try.prog Try.f176 = .some [.tmp 4] := by kernel_rfl
theorem n176 : (Try.f176.name == "runtime.NumGoroutine") = false := by kernel_rfl
def c179 : C := .seq
  (.reg [(none, (.mov (.const (.int .u32 0)), .some 4))] []) (.seq (.seq
  (.reg [(none, (.mov (.const (.int .i64 0)), .some 5))] []) (.block 0 (.loop (.seq (.seq
  (.reg [(none, (.mov (.tmp 5), .some 6)), (none, (.mov (.tmp 1), .some 7)), (none, (.len .false (.tmp 7), .some 8)), (none, (.bin .lss (.tmp 6) (.tmp 8), .some 9))] []) (.cond (.tmp 9) .skip (.exit 0))) (.seq (.block 1
  (.reg [(none, (.mov (.tmp 0), .some 12)), (none, (.mov (.tmp 1), .some 13)), (none, (.mov (.tmp 5), .some 14)), (none, (.iadr 1 (.tmp 13) (.tmp 14), .some 15)), (none, (.load none (.tmp 15), .some 16)), (none, (.call (.func 189) [.tmp 12, .tmp 16], .some 17)), (none, (.mov (.tmp 17), .some 0))] []))
  (.reg [(none, (.mov (.tmp 5), .some 10)), (none, (.bin .add (.tmp 10) (.const (.int .i64 1)), .some 11)), (none, (.mov (.tmp 11), .some 5))] [])))))) (.seq
  (.reg [(none, (.mov (.tmp 0), .some 18)), (none, (.mov (.tmp 18), .some 4))] []) .ret))
theorem b179 : Try.f179.body.bind (compC Try.prog) = some c179 := by kernel_rfl
theorem r179 : compR Try.prog Try.f179 = .some [.tmp 4] := by kernel_rfl
theorem n179 : (Try.f179.name == "runtime.NumGoroutine") = false := by kernel_rfl
def c193 : C := .seq
  (.reg [(none, (.mov (.const (.int .i64 0)), .some 2))] []) (.seq
  (.reg [(none, (.mov (.tmp 0), .some 3)), (none, (.mx .true (.tmp 3) (.const (.int .i64 0)), .some 4)), (none, (.mov (.tmp 4), .some 0))] []) (.seq
  (.reg [(none, (.mov (.tmp 0), .some 5)), (none, (.cvt .u64 (.tmp 5), .some 6)), (none, (.call (.func 131) [.tmp 6], .some 7)), (none, (.mov (.tmp 0), .some 8)), (none, (.bin .add (.tmp 7) (.tmp 8), .some 9)), (none, (.mov (.tmp 9), .some 2))] []) .ret))
theorem b193 : Try.f193.body.bind (compC Try.prog) = some c193 := by kernel_rfl
theorem r193 : compR Try.prog Try.f193 = .some [.tmp 2] := by kernel_rfl
theorem n193 : (Try.f193.name == "runtime.NumGoroutine") = false := by kernel_rfl
def c194 : C := .seq
  (.reg [(none, (.mov (.tmp 0), .some 4)), (none, (.mov (.tmp 1), .some 5)), (none, (.len .false (.tmp 5), .some 6)), (none, (.cvt .u64 (.tmp 6), .some 7)), (none, (.call (.func 127) [.tmp 4, .tmp 7], .some 8))] [])
  (.reg [(none, (.mov (.tmp 0), .some 9)), (none, (.mov (.tmp 1), .some 10)), (none, (.call (.func 140) [.tmp 9, .tmp 10], .some 11))] [])
theorem b194 : Try.f194.body.bind (compC Try.prog) = some c194 := by kernel_rfl
theorem r194 : compR Try.prog Try.f194 = .some [] := by kernel_rfl
theorem n194 : (Try.f194.name == "runtime.NumGoroutine") = false := by kernel_rfl
end Go.Proofs.Ytkhnfleejgfhgaa
