/-
  The codes of the seat's functions over abstract values, each shown to be its function's own (by program: wip/tools/codes.py).
-/
import Derived.Test.YtkhnfleejgfhgaaA2
import Derived.Test.YtkhnfleejgfhgaaProg
import Derived.KernelRfl
namespace Go.Proofs.Ytkhnfleejgfhgaa
def c16 : C := .seq
  (.reg [(none, (.mov (.const (.bool .false)), .some 2))] []) (.seq (.seq
  (.reg [(none, (.mov (.tmp 0), .some 9)), (none, (.len .false (.tmp 9), .some 10)), (none, (.bin .gtr (.tmp 10) (.const (.int .i64 400)), .some 11))] []) (.cond (.tmp 11) (.seq
  (.reg [(none, (.call (.func 32) [], .some 12)), (none, (.mov (.tmp 12), .some 2))] []) .ret) .skip)) (.seq
  (.reg [(none, (.mov (.tmp 0), .some 14)), (none, (.call (.func 85) [.tmp 14], .some 15)), (none, (.mov (.tmp 15), .some 13)), (none, (.ext (.tmp 13) 0, .some 16)), (none, (.ext (.tmp 13) 1, .some 17)), (none, (.ext (.tmp 13) 2, .some 18)), (none, (.new [.int .u64 0, .int .i64 0, .int .i64 0, .int .u64 0, .int .u64 0, .int .i64 0, .int .i64 0], .some 3)), (none, (.new [.int .i64 0, .int .i64 0], .some 5)), (none, (.store 7 (.tmp 3) (.tmp 16), none)), (none, (.mov (.tmp 17), .some 4)), (none, (.store 2 (.tmp 5) (.tmp 18), none))] []) (.seq
  (.reg [(none, (.mov (.tmp 0), .some 20)), (none, (.call (.func 86) [.tmp 20], .some 21)), (none, (.mov (.tmp 21), .some 19)), (none, (.ext (.tmp 19) 0, .some 22)), (none, (.ext (.tmp 19) 1, .some 23)), (none, (.ext (.tmp 19) 2, .some 24)), (none, (.new [.int .u64 0, .int .i64 0, .int .i64 0, .int .u64 0, .int .u64 0, .int .i64 0, .int .i64 0], .some 6)), (none, (.new [.int .i64 0, .int .i64 0], .some 8)), (none, (.store 7 (.tmp 6) (.tmp 22), none)), (none, (.mov (.tmp 23), .some 7)), (none, (.store 2 (.tmp 8) (.tmp 24), none))] []) (.seq (.seq
  (.reg [(none, (.load (.some 7) (.tmp 3), .some 25)), (none, (.call (.func 35) [.tmp 25], .some 26)), (none, (.load (.some 7) (.tmp 6), .some 27)), (none, (.eqa .true 7 (.tmp 26) (.tmp 27), .some 28)), (none, (.mov (.tmp 28), .some 29)), (.some (29, .false), (.mov (.tmp 4), .some 30)), (.some (29, .false), (.mov (.tmp 7), .some 31)), (.some (29, .false), (.bin .neq (.tmp 30) (.tmp 31), .some 32)), (none, (.pick (.tmp 29) (.const (.bool .true)) (.tmp 32), .some 33)), (none, (.mov (.tmp 33), .some 34)), (.some (34, .false), (.load (.some 2) (.tmp 5), .some 35)), (.some (34, .false), (.load (.some 2) (.tmp 8), .some 36)), (.some (34, .false), (.eqa .true 2 (.tmp 35) (.tmp 36), .some 37)), (none, (.pick (.tmp 34) (.const (.bool .true)) (.tmp 37), .some 38))] [(0, 2), (1, 2), (10, 11)]) (.cond (.tmp 38) (.seq
  (.reg [(none, (.mov (.const (.bool .false)), .some 2))] []) .ret) .skip)) (.seq (.seq
  (.reg [(none, (.fadr 0 (.tmp 8), .some 39)), (none, (.load none (.tmp 39), .some 40)), (none, (.bin .neq (.tmp 40) (.const (.int .i64 0)), .some 41))] []) (.cond (.tmp 41) (.seq
  (.reg [(none, (.call (.func 32) [], .some 42)), (none, (.mov (.tmp 42), .some 2))] []) .ret) .skip)) (.seq
  (.reg [(none, (.mov (.tmp 4), .some 43)), (none, (.bin .geq (.tmp 43) (.const (.int .i64 0)), .some 44)), (none, (.mov (.tmp 44), .some 45)), (.some (45, .true), (.mov (.tmp 4), .some 46)), (.some (45, .true), (.mov (.tmp 0), .some 47)), (.some (45, .true), (.len .false (.tmp 47), .some 48)), (.some (45, .true), (.bin .lss (.tmp 46) (.tmp 48), .some 49)), (none, (.pick (.tmp 45) (.tmp 49) (.const (.bool .false)), .some 50)), (none, (.mov (.tmp 50), .some 51)), (.some (51, .true), (.load (.some 7) (.tmp 6), .some 52)), (.some (51, .true), (.call (.func 36) [.tmp 52], .some 53)), (none, (.pick (.tmp 51) (.tmp 53) (.const (.bool .false)), .some 54)), (none, (.mov (.tmp 54), .some 55)), (.some (55, .true), (.load (.some 7) (.tmp 6), .some 56)), (.some (55, .true), (.call (.func 87) [.tmp 56], .some 57)), (.some (55, .true), (.mov (.tmp 0), .some 58)), (.some (55, .true), (.mov (.tmp 4), .some 59)), (.some (55, .true), (.slice 1 (.tmp 58) (.some (.tmp 59)) none none, .some 60)), (.some (55, .true), (.call (.func 23) [.tmp 57, .tmp 60], .some 61)), (none, (.pick (.tmp 55) (.tmp 61) (.const (.bool .false)), .some 62)), (none, (.mov (.tmp 62), .some 63)), (.some (63, .true), (.call (.func 32) [], .some 64)), (none, (.pick (.tmp 63) (.tmp 64) (.const (.bool .false)), .some 65)), (none, (.mov (.tmp 65), .some 2))] []) .ret))))))
theorem b16 : Try.f16.body.bind (compC Try.prog) = some c16 := by kernel_rfl
theorem r16 : compR Try.prog Try.f16 = .some [.tmp 2] := by kernel_rfl
theorem n16 : (Try.f16.name == "runtime.NumGoroutine") = false := by kernel_rfl
def c34 : C := .seq
  (.reg [(none, (.new [.int .u64 0, .int .i64 0, .int .i64 0, .int .u64 0, .int .u64 0, .int .i64 0, .int .i64 0], .some 2)), (none, (.new [.int .i64 0, .int .i64 0], .some 3))] []) (.seq
  (.reg [(none, (.mov (.tmp 0), .some 8)), (none, (.build [.slice none 0 0, .int .i64 0, .int .i64 0, .int .i64 0] [(0, (1, .tmp 8))], .some 9)), (none, (.call (.func 103) [.tmp 9, .const (.int .i64 1)], .some 10)), (none, (.mov (.tmp 10), .some 7)), (none, (.ext (.tmp 7) 0, .some 11)), (none, (.ext (.tmp 7) 1, .some 12)), (none, (.new [.slice none 0 0, .int .i64 0, .int .i64 0, .int .i64 0], .some 4)), (none, (.store 4 (.tmp 4) (.tmp 11), none)), (none, (.mov (.tmp 12), .some 5))] []) (.seq (.seq
  (.reg [(none, (.fadr 2 (.tmp 4), .some 13)), (none, (.fadr 0 (.tmp 13), .some 14)), (none, (.load none (.tmp 14), .some 15)), (none, (.bin .eql (.tmp 15) (.const (.int .i64 0)), .some 16)), (none, (.mov (.tmp 16), .some 17)), (.some (17, .true), (.mov (.tmp 5), .some 18)), (.some (17, .true), (.iadr 1 (.tmp 18) (.const (.int .i64 0)), .some 19)), (.some (17, .true), (.load none (.tmp 19), .some 20)), (.some (17, .true), (.bin .neq (.tmp 20) (.const (.int .u8 3)), .some 21)), (none, (.pick (.tmp 17) (.tmp 21) (.const (.bool .false)), .some 22))] []) (.cond (.tmp 22)
  (.reg [(none, (.load (.some 4) (.tmp 4), .some 23)), (none, (.call (.func 104) [.tmp 23, .const (.int .i64 7), .const (.int .i64 0)], .some 24)), (none, (.store 4 (.tmp 4) (.tmp 24), none))] []) .skip)) (.seq
  (.reg [(none, (.build [.int .u64 0, .int .i64 0, .int .i64 0, .int .u64 0, .int .u64 0, .int .i64 0, .int .i64 0] [], .some 25)), (none, (.new [.int .u64 0, .int .i64 0, .int .i64 0, .int .u64 0, .int .u64 0, .int .i64 0, .int .i64 0], .some 6)), (none, (.store 7 (.tmp 6) (.tmp 25), none))] []) (.seq
  (.reg [(none, (.load (.some 4) (.tmp 4), .some 27)), (none, (.call (.func 105) [.tmp 27, .const (.int .i64 1)], .some 28)), (none, (.mov (.tmp 28), .some 26)), (none, (.ext (.tmp 26) 0, .some 29)), (none, (.ext (.tmp 26) 1, .some 30)), (none, (.store 4 (.tmp 4) (.tmp 29), none)), (none, (.fadr 0 (.tmp 6), .some 31)), (none, (.store 1 (.tmp 31) (.tmp 30), none))] []) (.seq
  (.reg [(none, (.load (.some 4) (.tmp 4), .some 33)), (none, (.call (.func 106) [.tmp 33, .const (.int .i64 65536)], .some 34)), (none, (.mov (.tmp 34), .some 32)), (none, (.ext (.tmp 32) 0, .some 35)), (none, (.ext (.tmp 32) 1, .some 36)), (none, (.store 4 (.tmp 4) (.tmp 35), none)), (none, (.fadr 1 (.tmp 6), .some 37)), (none, (.store 1 (.tmp 37) (.tmp 36), none))] []) (.seq
  (.reg [(none, (.load (.some 4) (.tmp 4), .some 39)), (none, (.call (.func 106) [.tmp 39, .const (.int .i64 65536)], .some 40)), (none, (.mov (.tmp 40), .some 38)), (none, (.ext (.tmp 38) 0, .some 41)), (none, (.ext (.tmp 38) 1, .some 42)), (none, (.store 4 (.tmp 4) (.tmp 41), none)), (none, (.fadr 2 (.tmp 6), .some 43)), (none, (.store 1 (.tmp 43) (.tmp 42), none))] []) (.seq
  (.reg [(none, (.load (.some 4) (.tmp 4), .some 45)), (none, (.call (.func 107) [.tmp 45], .some 46)), (none, (.mov (.tmp 46), .some 44)), (none, (.ext (.tmp 44) 0, .some 47)), (none, (.ext (.tmp 44) 1, .some 48)), (none, (.store 4 (.tmp 4) (.tmp 47), none)), (none, (.fadr 3 (.tmp 6), .some 49)), (none, (.store 1 (.tmp 49) (.tmp 48), none))] []) (.seq
  (.reg [(none, (.load (.some 4) (.tmp 4), .some 51)), (none, (.call (.func 107) [.tmp 51], .some 52)), (none, (.mov (.tmp 52), .some 50)), (none, (.ext (.tmp 50) 0, .some 53)), (none, (.ext (.tmp 50) 1, .some 54)), (none, (.store 4 (.tmp 4) (.tmp 53), none)), (none, (.fadr 4 (.tmp 6), .some 55)), (none, (.store 1 (.tmp 55) (.tmp 54), none))] []) (.seq
  (.reg [(none, (.load (.some 4) (.tmp 4), .some 57)), (none, (.call (.func 106) [.tmp 57, .const (.int .i64 1099511627776)], .some 58)), (none, (.mov (.tmp 58), .some 56)), (none, (.ext (.tmp 56) 0, .some 59)), (none, (.ext (.tmp 56) 1, .some 60)), (none, (.store 4 (.tmp 4) (.tmp 59), none)), (none, (.fadr 5 (.tmp 6), .some 61)), (none, (.store 1 (.tmp 61) (.tmp 60), none))] []) (.seq
  (.reg [(none, (.load (.some 4) (.tmp 4), .some 63)), (none, (.call (.func 106) [.tmp 63, .const (.int .i64 1099511627776)], .some 64)), (none, (.mov (.tmp 64), .some 62)), (none, (.ext (.tmp 62) 0, .some 65)), (none, (.ext (.tmp 62) 1, .some 66)), (none, (.store 4 (.tmp 4) (.tmp 65), none)), (none, (.fadr 6 (.tmp 6), .some 67)), (none, (.store 1 (.tmp 67) (.tmp 66), none))] []) (.seq (.seq
  (.reg [(none, (.fadr 2 (.tmp 4), .some 68)), (none, (.fadr 0 (.tmp 68), .some 69)), (none, (.load none (.tmp 69), .some 70)), (none, (.bin .eql (.tmp 70) (.const (.int .i64 0)), .some 71)), (none, (.mov (.tmp 71), .some 72)), (.some (72, .true), (.load (.some 7) (.tmp 6), .some 73)), (.some (72, .true), (.call (.func 36) [.tmp 73], .some 74)), (.some (72, .true), (.un .not (.tmp 74), .some 75)), (none, (.pick (.tmp 72) (.tmp 75) (.const (.bool .false)), .some 76))] []) (.cond (.tmp 76)
  (.reg [(none, (.load (.some 4) (.tmp 4), .some 77)), (none, (.call (.func 104) [.tmp 77, .const (.int .i64 3), .const (.int .i64 0)], .some 78)), (none, (.store 4 (.tmp 4) (.tmp 78), none))] []) .skip)) (.seq
  (.reg [(none, (.load (.some 4) (.tmp 4), .some 79)), (none, (.call (.func 108) [.tmp 79], .some 80)), (none, (.store 4 (.tmp 4) (.tmp 80), none))] []) (.seq (.seq
  (.reg [(none, (.fadr 2 (.tmp 4), .some 81)), (none, (.fadr 0 (.tmp 81), .some 82)), (none, (.load none (.tmp 82), .some 83)), (none, (.bin .neq (.tmp 83) (.const (.int .i64 0)), .some 84))] []) (.cond (.tmp 84) (.seq
  (.reg [(none, (.build [.int .u64 0, .int .i64 0, .int .i64 0, .int .u64 0, .int .u64 0, .int .i64 0, .int .i64 0] [], .some 85)), (none, (.fadr 2 (.tmp 4), .some 86)), (none, (.load (.some 2) (.tmp 86), .some 87)), (none, (.store 7 (.tmp 2) (.tmp 85), none)), (none, (.store 2 (.tmp 3) (.tmp 87), none))] [(2, 3)]) .ret) .skip)) (.seq
  (.reg [(none, (.load (.some 7) (.tmp 6), .some 88)), (none, (.build [.int .i64 0, .int .i64 0] [], .some 89)), (none, (.store 7 (.tmp 2) (.tmp 88), none)), (none, (.store 2 (.tmp 3) (.tmp 89), none))] []) .ret))))))))))))))
theorem b34 : Try.f34.body.bind (compC Try.prog) = some c34 := by kernel_rfl
theorem r34 : compR Try.prog Try.f34 = .some [.cell 2 (.some 7), .cell 3 (.some 2)] := by kernel_rfl
theorem n34 : (Try.f34.name == "runtime.NumGoroutine") = false := by kernel_rfl
def c35 : C := .seq
  (.reg [(none, (.box (.tmp 0), .some 1)), (none, (.new [.int .u64 0, .int .i64 0, .int .i64 0, .int .u64 0, .int .u64 0, .int .i64 0, .int .i64 0], .some 2))] []) (.seq
  (.reg [(none, (.fadr 0 (.tmp 1), .some 3)), (none, (.load none (.tmp 3), .some 4)), (none, (.fadr 1 (.tmp 1), .some 5)), (none, (.load none (.tmp 5), .some 6)), (none, (.fadr 2 (.tmp 1), .some 7)), (none, (.load none (.tmp 7), .some 8)), (none, (.fadr 3 (.tmp 1), .some 9)), (none, (.load none (.tmp 9), .some 10)), (none, (.fadr 4 (.tmp 1), .some 11)), (none, (.load none (.tmp 11), .some 12)), (none, (.fadr 5 (.tmp 1), .some 13)), (none, (.load none (.tmp 13), .some 14)), (none, (.fadr 6 (.tmp 1), .some 15)), (none, (.load none (.tmp 15), .some 16)), (none, (.build [.int .u64 0, .int .i64 0, .int .i64 0, .int .u64 0, .int .u64 0, .int .i64 0, .int .i64 0] [(0, (1, .tmp 4)), (1, (1, .tmp 6)), (2, (1, .tmp 8)), (3, (1, .tmp 10)), (4, (1, .tmp 12)), (5, (1, .tmp 14)), (6, (1, .tmp 16))], .some 17)), (none, (.store 7 (.tmp 2) (.tmp 17), none))] []) .ret)
theorem b35 : Try.f35.body.bind (compC Try.prog) = some c35 := by kernel_rfl
theorem r35 : compR Try.prog Try.f35 = .some [.cell 2 (.some 7)] := by kernel_rfl
theorem n35 : (Try.f35.name == "runtime.NumGoroutine") = false := by kernel_rfl
def c53 : C := .seq
  (.reg [(none, (.mov (.const (.pointer none)), .some 2))] []) (.seq
  (.reg [(none, (.mov (.tmp 0), .some 3)), (none, (.mx .true (.tmp 3) (.const (.int .i64 0)), .some 4)), (none, (.build [.int .i64 0, .slice none 0 0, .int .i64 0] [(0, (1, .tmp 4))], .some 5)), (none, (.box (.tmp 5), .some 6)), (none, (.mov (.tmp 6), .some 2))] []) .ret)
theorem b53 : Try.f53.body.bind (compC Try.prog) = some c53 := by kernel_rfl
theorem r53 : compR Try.prog Try.f53 = .some [.tmp 2] := by kernel_rfl
theorem n53 : (Try.f53.name == "runtime.NumGoroutine") = false := by kernel_rfl
def c78 : C := .seq
  (.reg [(none, (.mov (.const (.bool .false)), .some 4))] []) (.seq (.block 0 (.seq
  (.reg [(none, (.mov (.tmp 0), .some 6)), (none, (.call (.func 57) [.tmp 6], .some 7)), (none, (.un .not (.tmp 7), .some 8)), (none, (.mov (.tmp 8), .some 5))] []) (.cond (.tmp 5) (.seq
  (.reg [(none, (.mov (.const (.bool .false)), .some 4))] []) .ret) (.seq
  (.reg [(none, (.mov (.tmp 1), .some 10)), (none, (.bin .lss (.tmp 10) (.const (.int .i64 0)), .some 11)), (none, (.mov (.tmp 11), .some 9))] []) (.cond (.tmp 9) (.seq
  (.reg [(none, (.mov (.tmp 0), .some 12)), (none, (.mov (.tmp 0), .some 13)), (none, (.nilc (.tmp 13), .some 14)), (none, (.fadr 1 (.tmp 14), .some 15)), (none, (.load none (.tmp 15), .some 16)), (none, (.call (.func 97) [.tmp 12, .const (.int .i64 17), .tmp 16], .some 17))] []) (.seq
  (.reg [(none, (.mov (.const (.bool .false)), .some 4))] []) .ret)) (.seq
  (.reg [(none, (.mov (.tmp 1), .some 19)), (none, (.mov (.tmp 0), .some 20)), (none, (.call (.func 150) [.tmp 20], .some 21)), (none, (.bin .gtr (.tmp 19) (.tmp 21), .some 22)), (none, (.mov (.tmp 22), .some 18))] []) (.cond (.tmp 18) (.seq
  (.reg [(none, (.mov (.tmp 0), .some 23)), (none, (.mov (.tmp 0), .some 24)), (none, (.nilc (.tmp 24), .some 25)), (none, (.fadr 0 (.tmp 25), .some 26)), (none, (.load none (.tmp 26), .some 27)), (none, (.len .false (.tmp 27), .some 28)), (none, (.call (.func 97) [.tmp 23, .const (.int .i64 1), .tmp 28], .some 29))] []) (.seq
  (.reg [(none, (.mov (.const (.bool .false)), .some 4))] []) .ret)) .skip))))))) (.seq
  (.reg [(none, (.mov (.tmp 0), .some 30)), (none, (.nilc (.tmp 30), .some 31)), (none, (.fadr 1 (.tmp 31), .some 32)), (none, (.load none (.tmp 32), .some 33)), (none, (.mov (.tmp 1), .some 34)), (none, (.bin .add (.tmp 33) (.tmp 34), .some 35)), (none, (.nilc (.tmp 30), .some 36)), (none, (.fadr 1 (.tmp 36), .some 37)), (none, (.store 1 (.tmp 37) (.tmp 35), none))] []) (.seq
  (.reg [(none, (.mov (.const (.bool .true)), .some 4))] []) .ret)))
theorem b78 : Try.f78.body.bind (compC Try.prog) = some c78 := by kernel_rfl
theorem r78 : compR Try.prog Try.f78 = .some [.tmp 4] := by kernel_rfl
theorem n78 : (Try.f78.name == "runtime.NumGoroutine") = false := by kernel_rfl
def c96 : C := .seq
  (.reg [(none, (.mov (.const (.int .u8 0)), .some 2))] []) (.seq (.seq
  (.reg [(none, (.mov (.tmp 0), .some 3)), (none, (.call (.func 78) [.tmp 3, .const (.int .i64 1)], .some 4)), (none, (.un .not (.tmp 4), .some 5))] []) (.cond (.tmp 5) (.seq
  (.reg [(none, (.mov (.const (.int .u8 0)), .some 2))] []) .ret) .skip)) (.seq
  (.reg [(none, (.mov (.tmp 0), .some 6)), (none, (.nilc (.tmp 6), .some 7)), (none, (.fadr 0 (.tmp 7), .some 8)), (none, (.load none (.tmp 8), .some 9)), (none, (.mov (.tmp 0), .some 10)), (none, (.nilc (.tmp 10), .some 11)), (none, (.fadr 1 (.tmp 11), .some 12)), (none, (.load none (.tmp 12), .some 13)), (none, (.bin .sub (.tmp 13) (.const (.int .i64 1)), .some 14)), (none, (.iadr 1 (.tmp 9) (.tmp 14), .some 15)), (none, (.load none (.tmp 15), .some 16)), (none, (.mov (.tmp 16), .some 2))] [(3, 7)]) .ret))
theorem b96 : Try.f96.body.bind (compC Try.prog) = some c96 := by kernel_rfl
theorem r96 : compR Try.prog Try.f96 = .some [.tmp 2] := by kernel_rfl
theorem n96 : (Try.f96.name == "runtime.NumGoroutine") = false := by kernel_rfl
def c100 : C := .seq
  (.reg [(none, (.mov (.const (.int .u64 0)), .some 2))] []) (.scope (.seq
  (.reg [(none, (.mov (.const (.int .u64 0)), .some 3))] []) (.seq
  (.reg [(none, (.mov (.const (.int .u8 0)), .some 4))] []) (.seq
  (.reg [(none, (.mov (.tmp 0), .some 7)), (none, (.call (.func 49) [.tmp 7], .some 8)), (none, (.mov (.const (.int .i64 0)), .some 5)), (none, (.mov (.tmp 8), .some 6))] []) (.seq (.label 0) (.seq
  (.reg [(none, (.mov (.tmp 0), .some 9)), (none, (.call (.func 96) [.tmp 9], .some 10)), (none, (.mov (.tmp 10), .some 4))] []) (.seq (.block 0 (.seq
  (.reg [(none, (.mov (.tmp 0), .some 12)), (none, (.call (.func 57) [.tmp 12], .some 13)), (none, (.un .not (.tmp 13), .some 14)), (none, (.mov (.tmp 14), .some 11))] []) (.cond (.tmp 11) (.seq
  (.reg [(none, (.mov (.const (.int .u64 0)), .some 2))] []) .ret) (.seq
  (.reg [(none, (.mov (.tmp 5), .some 16)), (none, (.bin .eql (.tmp 16) (.const (.int .i64 63)), .some 17)), (none, (.mov (.tmp 17), .some 18)), (.some (18, .true), (.mov (.tmp 4), .some 19)), (.some (18, .true), (.bin .gtr (.tmp 19) (.const (.int .u8 1)), .some 20)), (none, (.pick (.tmp 18) (.tmp 20) (.const (.bool .false)), .some 21)), (none, (.mov (.tmp 21), .some 15))] []) (.cond (.tmp 15) (.seq
  (.reg [(none, (.mov (.tmp 0), .some 22)), (none, (.mov (.tmp 0), .some 23)), (none, (.call (.func 49) [.tmp 23], .some 24)), (none, (.bin .sub (.tmp 24) (.const (.int .i64 1)), .some 25)), (none, (.call (.func 97) [.tmp 22, .const (.int .i64 5), .tmp 25], .some 26))] []) (.seq
  (.reg [(none, (.mov (.const (.int .u64 0)), .some 2))] []) .ret)) (.seq
  (.reg [(none, (.mov (.tmp 4), .some 28)), (none, (.bin .eql (.tmp 28) (.const (.int .u8 0)), .some 29)), (none, (.mov (.tmp 29), .some 30)), (.some (30, .true), (.mov (.tmp 0), .some 31)), (.some (30, .true), (.call (.func 49) [.tmp 31], .some 32)), (.some (30, .true), (.bin .sub (.tmp 32) (.const (.int .i64 1)), .some 33)), (.some (30, .true), (.mov (.tmp 6), .some 34)), (.some (30, .true), (.bin .gtr (.tmp 33) (.tmp 34), .some 35)), (none, (.pick (.tmp 30) (.tmp 35) (.const (.bool .false)), .some 36)), (none, (.mov (.tmp 36), .some 27))] []) (.cond (.tmp 27) (.seq
  (.reg [(none, (.mov (.tmp 0), .some 37)), (none, (.mov (.tmp 0), .some 38)), (none, (.call (.func 49) [.tmp 38], .some 39)), (none, (.bin .sub (.tmp 39) (.const (.int .i64 1)), .some 40)), (none, (.call (.func 97) [.tmp 37, .const (.int .i64 4), .tmp 40], .some 41))] []) (.seq
  (.reg [(none, (.mov (.const (.int .u64 0)), .some 2))] []) .ret)) .skip))))))) (.seq
  (.reg [(none, (.mov (.tmp 3), .some 42)), (none, (.mov (.tmp 4), .some 43)), (none, (.bin .rem (.tmp 43) (.const (.int .u8 128)), .some 44)), (none, (.cvt .u64 (.tmp 44), .some 45)), (none, (.mov (.tmp 5), .some 46)), (none, (.bin .shl (.tmp 45) (.tmp 46), .some 47)), (none, (.bin .or (.tmp 42) (.tmp 47), .some 48)), (none, (.mov (.tmp 48), .some 3))] []) (.seq
  (.reg [(none, (.mov (.tmp 5), .some 49)), (none, (.bin .add (.tmp 49) (.const (.int .i64 7)), .some 50)), (none, (.mov (.tmp 50), .some 5))] []) (.seq (.seq
  (.reg [(none, (.mov (.tmp 4), .some 51)), (none, (.bin .geq (.tmp 51) (.const (.int .u8 128)), .some 52))] []) (.cond (.tmp 52) (.goto 0) .skip)) (.seq
  (.reg [(none, (.mov (.tmp 3), .some 53)), (none, (.mov (.tmp 53), .some 2))] []) .ret)))))))))))
theorem b100 : Try.f100.body.bind (compC Try.prog) = some c100 := by kernel_rfl
theorem r100 : compR Try.prog Try.f100 = .some [.tmp 2] := by kernel_rfl
theorem n100 : (Try.f100.name == "runtime.NumGoroutine") = false := by kernel_rfl
def c101 : C := .seq
  (.reg [(none, (.mov (.tmp 0), .some 2)), (none, (.call (.func 150) [.tmp 2], .some 3)), (none, (.bin .gtr (.tmp 3) (.const (.int .i64 0)), .some 4))] []) (.cond (.tmp 4)
  (.reg [(none, (.mov (.tmp 0), .some 5)), (none, (.mov (.tmp 0), .some 6)), (none, (.nilc (.tmp 6), .some 7)), (none, (.fadr 1 (.tmp 7), .some 8)), (none, (.load none (.tmp 8), .some 9)), (none, (.call (.func 97) [.tmp 5, .const (.int .i64 9), .tmp 9], .some 10))] []) .skip)
theorem b101 : Try.f101.body.bind (compC Try.prog) = some c101 := by kernel_rfl
theorem r101 : compR Try.prog Try.f101 = .some [] := by kernel_rfl
theorem n101 : (Try.f101.name == "runtime.NumGoroutine") = false := by kernel_rfl
def c106 : C := .seq
  (.reg [(none, (.box (.tmp 0), .some 2)), (none, (.new [.slice none 0 0, .int .i64 0, .int .i64 0, .int .i64 0], .some 4)), (none, (.mov (.const (.int .i64 0)), .some 5))] []) (.seq (.seq
  (.reg [(none, (.mov (.tmp 1), .some 10)), (none, (.bin .geq (.tmp 10) (.const (.int .i64 0)), .some 11))] []) (.cond (.tmp 11) (.seq
  (.reg [(none, (.load (.some 4) (.tmp 2), .some 13)), (none, (.mov (.tmp 1), .some 14)), (none, (.cvt .u64 (.tmp 14), .some 15)), (none, (.call (.func 166) [.tmp 13, .tmp 15], .some 16)), (none, (.mov (.tmp 16), .some 12)), (none, (.ext (.tmp 12) 0, .some 17)), (none, (.ext (.tmp 12) 1, .some 18)), (none, (.new [.slice none 0 0, .int .i64 0, .int .i64 0, .int .i64 0], .some 6)), (none, (.store 4 (.tmp 6) (.tmp 17), none)), (none, (.mov (.tmp 18), .some 7))] []) (.seq
  (.reg [(none, (.load (.some 4) (.tmp 6), .some 19)), (none, (.mov (.tmp 7), .some 20)), (none, (.cvt .i64 (.tmp 20), .some 21)), (none, (.store 4 (.tmp 4) (.tmp 19), none)), (none, (.mov (.tmp 21), .some 5))] []) .ret)) .skip)) (.seq
  (.reg [(none, (.load (.some 4) (.tmp 2), .some 23)), (none, (.call (.func 107) [.tmp 23], .some 24)), (none, (.mov (.tmp 24), .some 22)), (none, (.ext (.tmp 22) 0, .some 25)), (none, (.ext (.tmp 22) 1, .some 26)), (none, (.new [.slice none 0 0, .int .i64 0, .int .i64 0, .int .i64 0], .some 8)), (none, (.store 4 (.tmp 8) (.tmp 25), none)), (none, (.mov (.tmp 26), .some 9))] []) (.seq
  (.reg [(none, (.load (.some 4) (.tmp 8), .some 27)), (none, (.fadr 1 (.tmp 2), .some 28)), (none, (.load none (.tmp 28), .some 29)), (none, (.call (.func 104) [.tmp 27, .const (.int .i64 2), .tmp 29], .some 30)), (none, (.store 4 (.tmp 4) (.tmp 30), none)), (none, (.mov (.const (.int .i64 0)), .some 5))] []) .ret)))
theorem b106 : Try.f106.body.bind (compC Try.prog) = some c106 := by kernel_rfl
theorem r106 : compR Try.prog Try.f106 = .some [.cell 4 (.some 4), .tmp 5] := by kernel_rfl
theorem n106 : (Try.f106.name == "runtime.NumGoroutine") = false := by kernel_rfl
def c108 : C := .seq
  (.reg [(none, (.box (.tmp 0), .some 1)), (none, (.new [.slice none 0 0, .int .i64 0, .int .i64 0, .int .i64 0], .some 2))] []) (.seq (.seq
  (.reg [(none, (.fadr 1 (.tmp 1), .some 3)), (none, (.load none (.tmp 3), .some 4)), (none, (.fadr 0 (.tmp 1), .some 5)), (none, (.load none (.tmp 5), .some 6)), (none, (.len .false (.tmp 6), .some 7)), (none, (.bin .lss (.tmp 4) (.tmp 7), .some 8))] []) (.cond (.tmp 8) (.seq
  (.reg [(none, (.load (.some 4) (.tmp 1), .some 9)), (none, (.fadr 1 (.tmp 1), .some 10)), (none, (.load none (.tmp 10), .some 11)), (none, (.call (.func 104) [.tmp 9, .const (.int .i64 9), .tmp 11], .some 12)), (none, (.store 4 (.tmp 2) (.tmp 12), none))] []) .ret) .skip)) (.seq
  (.reg [(none, (.load (.some 4) (.tmp 1), .some 13)), (none, (.store 4 (.tmp 2) (.tmp 13), none))] []) .ret))
theorem b108 : Try.f108.body.bind (compC Try.prog) = some c108 := by kernel_rfl
theorem r108 : compR Try.prog Try.f108 = .some [.cell 2 (.some 4)] := by kernel_rfl
theorem n108 : (Try.f108.name == "runtime.NumGoroutine") = false := by kernel_rfl
def c124 : C := .seq
  (.reg [(none, (.new [.int .i64 0, .int .i64 0], .some 4))] []) (.seq (.seq
  (.reg [(none, (.mov (.tmp 0), .some 5)), (none, (.bin .eql (.tmp 5) (.const (.int .i64 0)), .some 6))] []) (.cond (.tmp 6) (.seq
  (.reg [(none, (.build [.int .i64 0, .int .i64 0] [], .some 7)), (none, (.store 2 (.tmp 4) (.tmp 7), none))] []) .ret) .skip)) (.seq
  (.reg [(none, (.mov (.tmp 0), .some 8)), (none, (.mov (.tmp 1), .some 9)), (none, (.build [.int .i64 0, .int .i64 0] [(0, (1, .tmp 8)), (1, (1, .tmp 9))], .some 10)), (none, (.store 2 (.tmp 4) (.tmp 10), none))] []) .ret))
theorem b124 : Try.f124.body.bind (compC Try.prog) = some c124 := by kernel_rfl
theorem r124 : compR Try.prog Try.f124 = .some [.cell 4 (.some 2)] := by kernel_rfl
theorem n124 : (Try.f124.name == "runtime.NumGoroutine") = false := by kernel_rfl
def c140 : C := .block 0 (.seq
  (.reg [(none, (.mov (.tmp 0), .some 14)), (none, (.call (.func 130) [.tmp 14], .some 15)), (none, (.bin .neq (.tmp 15) (.const (.int .i64 0)), .some 16)), (none, (.mov (.tmp 16), .some 13))] []) (.cond (.tmp 13) .skip (.seq
  (.reg [(none, (.mov (.tmp 1), .some 18)), (none, (.len .false (.tmp 18), .some 19)), (none, (.mov (.tmp 0), .some 20)), (none, (.call (.func 174) [.tmp 20], .some 21)), (none, (.bin .gtr (.tmp 19) (.tmp 21), .some 22)), (none, (.mov (.tmp 22), .some 17))] []) (.cond (.tmp 17)
  (.reg [(none, (.mov (.tmp 0), .some 23)), (none, (.call (.func 126) [.tmp 23, .const (.int .i64 2)], .some 24))] [])
  (.reg [(none, (.mov (.tmp 0), .some 4)), (none, (.mov (.tmp 0), .some 5)), (none, (.nilc (.tmp 5), .some 6)), (none, (.fadr 1 (.tmp 6), .some 7)), (none, (.load none (.tmp 7), .some 8)), (none, (.mov (.tmp 1), .some 9)), (none, (.app 1 1 (.tmp 8) (.tmp 9), .some 10)), (none, (.nilc (.tmp 4), .some 11)), (none, (.fadr 1 (.tmp 11), .some 12)), (none, (.store 1 (.tmp 12) (.tmp 10), none))] [])))))
theorem b140 : Try.f140.body.bind (compC Try.prog) = some c140 := by kernel_rfl
theorem r140 : compR Try.prog Try.f140 = .some [] := by kernel_rfl
theorem n140 : (Try.f140.name == "runtime.NumGoroutine") = false := by kernel_rfl
def c141 : C := .reg [(none, (.mov (.tmp 0), .some 6)), (none, (.mov (.tmp 1), .some 7)), (none, (.mov (.tmp 2), .some 8)), (none, (.call (.func 162) [.tmp 7, .tmp 8], .some 9)), (none, (.call (.func 140) [.tmp 6, .tmp 9], .some 10))] []
theorem b141 : Try.f141.body.bind (compC Try.prog) = some c141 := by kernel_rfl
theorem r141 : compR Try.prog Try.f141 = .some [] := by kernel_rfl
theorem n141 : (Try.f141.name == "runtime.NumGoroutine") = false := by kernel_rfl
def c155 : C := .seq
  (.reg [(none, (.box (.tmp 0), .some 2)), (none, (.new [.int .i64 0, .int .i64 0], .some 4))] []) (.seq
  (.reg [(none, (.fadr 0 (.tmp 2), .some 5)), (none, (.load none (.tmp 5), .some 6)), (none, (.fadr 1 (.tmp 2), .some 7)), (none, (.load none (.tmp 7), .some 8)), (none, (.mov (.tmp 1), .some 9)), (none, (.bin .add (.tmp 8) (.tmp 9), .some 10)), (none, (.call (.func 124) [.tmp 6, .tmp 10], .some 11)), (none, (.store 2 (.tmp 4) (.tmp 11), none))] []) .ret)
theorem b155 : Try.f155.body.bind (compC Try.prog) = some c155 := by kernel_rfl
theorem r155 : compR Try.prog Try.f155 = .some [.cell 4 (.some 2)] := by kernel_rfl
theorem n155 : (Try.f155.name == "runtime.NumGoroutine") = false := by kernel_rfl
def c157 : C := .seq
  (.reg [(none, (.box (.tmp 0), .some 2)), (none, (.new [.slice none 0 0, .int .i64 0, .int .i64 0, .int .i64 0], .some 4)), (none, (.mov (.const (.slice none 0 0)), .some 5))] []) (.seq (.seq
  (.reg [(none, (.mov (.tmp 1), .some 10)), (none, (.bin .gtr (.tmp 10) (.const (.int .i64 2097152)), .some 11))] []) (.cond (.tmp 11)
  (.reg [(none, (.mov (.const (.int .i64 2097152)), .some 1))] []) .skip)) (.seq
  (.reg [(none, (.load (.some 4) (.tmp 2), .some 13)), (none, (.mov (.tmp 1), .some 14)), (none, (.call (.func 182) [.tmp 13, .tmp 14], .some 15)), (none, (.mov (.tmp 15), .some 12)), (none, (.ext (.tmp 12) 0, .some 16)), (none, (.ext (.tmp 12) 1, .some 17)), (none, (.new [.slice none 0 0, .int .i64 0, .int .i64 0, .int .i64 0], .some 6)), (none, (.store 4 (.tmp 6) (.tmp 16), none)), (none, (.mov (.tmp 17), .some 7))] []) (.seq
  (.reg [(none, (.load (.some 4) (.tmp 6), .some 19)), (none, (.call (.func 149) [.tmp 19, .const (.int .i64 4)], .some 20)), (none, (.mov (.tmp 20), .some 18)), (none, (.ext (.tmp 18) 0, .some 21)), (none, (.ext (.tmp 18) 1, .some 22)), (none, (.new [.slice none 0 0, .int .i64 0, .int .i64 0, .int .i64 0], .some 8)), (none, (.store 4 (.tmp 8) (.tmp 21), none)), (none, (.mov (.tmp 22), .some 9))] []) (.seq (.seq
  (.reg [(none, (.fadr 2 (.tmp 8), .some 23)), (none, (.fadr 0 (.tmp 23), .some 24)), (none, (.load none (.tmp 24), .some 25)), (none, (.bin .eql (.tmp 25) (.const (.int .i64 0)), .some 26)), (none, (.mov (.tmp 26), .some 27)), (.some (27, .true), (.mov (.tmp 9), .some 28)), (.some (27, .true), (.mov (.tmp 7), .some 29)), (.some (27, .true), (.call (.func 148) [.tmp 29], .some 30)), (.some (27, .true), (.cvt .u64 (.tmp 30), .some 31)), (.some (27, .true), (.bin .neq (.tmp 28) (.tmp 31), .some 32)), (none, (.pick (.tmp 27) (.tmp 32) (.const (.bool .false)), .some 33))] []) (.cond (.tmp 33)
  (.reg [(none, (.load (.some 4) (.tmp 8), .some 34)), (none, (.fadr 1 (.tmp 6), .some 35)), (none, (.load none (.tmp 35), .some 36)), (none, (.call (.func 104) [.tmp 34, .const (.int .i64 6), .tmp 36], .some 37)), (none, (.store 4 (.tmp 8) (.tmp 37), none))] []) .skip)) (.seq (.seq
  (.reg [(none, (.fadr 2 (.tmp 8), .some 38)), (none, (.fadr 0 (.tmp 38), .some 39)), (none, (.load none (.tmp 39), .some 40)), (none, (.bin .neq (.tmp 40) (.const (.int .i64 0)), .some 41))] []) (.cond (.tmp 41) (.seq
  (.reg [(none, (.load (.some 4) (.tmp 8), .some 42)), (none, (.store 4 (.tmp 4) (.tmp 42), none)), (none, (.mov (.const (.slice none 0 0)), .some 5))] []) .ret) .skip)) (.seq
  (.reg [(none, (.load (.some 4) (.tmp 8), .some 43)), (none, (.mov (.tmp 7), .some 44)), (none, (.store 4 (.tmp 4) (.tmp 43), none)), (none, (.mov (.tmp 44), .some 5))] []) .ret))))))
theorem b157 : Try.f157.body.bind (compC Try.prog) = some c157 := by kernel_rfl
theorem r157 : compR Try.prog Try.f157 = .some [.cell 4 (.some 4), .tmp 5] := by kernel_rfl
theorem n157 : (Try.f157.name == "runtime.NumGoroutine") = false := by kernel_rfl
def c175 : C := .seq
  (.reg [(none, (.mov (.const (.int .u32 0)), .some 2))] []) (.seq
  (.reg [(none, (.mov (.tmp 0), .some 3)), (none, (.un .xor (.tmp 3), .some 4)), (none, (.mov (.tmp 4), .some 2))] []) .ret)
theorem b175 : Try.f175.body.bind (compC Try.prog) = some c175 := by kernel_rfl
theorem r175 : compR Try.prog Try.f175 = .some [.tmp 2] := by kernel_rfl
theorem n175 : (Try.f175.name == "runtime.NumGoroutine") = false := by kernel_rfl
def c181 : C := .seq
  (.reg [(none, (.mov (.const (.slice none 0 0)), .some 4))] []) (.seq
  (.reg [(none, (.mov (.tmp 0), .some 8)), (none, (.mov (.tmp 1), .some 9)), (none, (.call (.func 191) [.tmp 9], .some 10)), (none, (.call (.func 190) [.tmp 8, .tmp 10], .some 11)), (none, (.mov (.tmp 11), .some 5))] []) (.seq
  (.reg [(none, (.mov (.tmp 0), .some 12)), (none, (.call (.func 49) [.tmp 12], .some 13)), (none, (.mov (.tmp 13), .some 6))] []) (.seq
  (.reg [(none, (.mov (.tmp 0), .some 14)), (none, (.call (.func 152) [.tmp 14, .const (.int .i64 4)], .some 15)), (none, (.mov (.tmp 15), .some 7))] []) (.seq
  (.reg [(none, (.mov (.tmp 5), .some 16)), (none, (.mov (.tmp 7), .some 17)), (none, (.mov (.tmp 0), .some 18)), (none, (.mkf 97 [.tmp 18] [], .some 19)), (none, (.mov (.tmp 6), .some 20)), (none, (.call (.func 192) [.tmp 16, .tmp 17, .tmp 19, .tmp 20], .some 21))] []) (.seq (.seq
  (.reg [(none, (.mov (.tmp 0), .some 22)), (none, (.call (.func 57) [.tmp 22], .some 23)), (none, (.un .not (.tmp 23), .some 24))] []) (.cond (.tmp 24) (.seq
  (.reg [(none, (.mov (.const (.slice none 0 0)), .some 4))] []) .ret) .skip)) (.seq
  (.reg [(none, (.mov (.tmp 5), .some 25)), (none, (.mov (.tmp 25), .some 4))] []) .ret))))))
theorem b181 : Try.f181.body.bind (compC Try.prog) = some c181 := by kernel_rfl
theorem r181 : compR Try.prog Try.f181 = .some [.tmp 4] := by kernel_rfl
theorem n181 : (Try.f181.name == "runtime.NumGoroutine") = false := by kernel_rfl
def c183 : C := .seq
  (.reg [(none, (.mov (.const (.slice none 0 0)), .some 2))] []) (.seq
  (.reg [(none, (.mov (.tmp 0), .some 3)), (none, (.len .false (.tmp 3), .some 4)), (none, (.cvt .u64 (.tmp 4), .some 5)), (none, (.call (.func 110) [.tmp 5], .some 6)), (none, (.mov (.tmp 0), .some 7)), (none, (.app 1 1 (.tmp 6) (.tmp 7), .some 8)), (none, (.mov (.tmp 8), .some 2))] []) .ret)
theorem b183 : Try.f183.body.bind (compC Try.prog) = some c183 := by kernel_rfl
theorem r183 : compR Try.prog Try.f183 = .some [.tmp 2] := by kernel_rfl
theorem n183 : (Try.f183.name == "runtime.NumGoroutine") = false := by kernel_rfl
def c189 : C := .seq
  (.reg [(none, (.mov (.const (.int .u32 0)), .some 4))] []) (.seq
  (.reg [(none, (.mov (.tmp 0), .some 7)), (none, (.mov (.tmp 1), .some 8)), (none, (.cvt .u32 (.tmp 8), .some 9)), (none, (.bin .xor (.tmp 7) (.tmp 9), .some 10)), (none, (.mov (.tmp 10), .some 0))] []) (.seq (.seq
  (.reg [(none, (.mov (.const (.int .i64 0)), .some 5))] []) (.block 0 (.loop (.seq (.seq
  (.reg [(none, (.mov (.tmp 5), .some 11)), (none, (.bin .lss (.tmp 11) (.const (.int .i64 8)), .some 12))] []) (.cond (.tmp 12) .skip (.exit 0))) (.seq (.block 1 (.seq
  (.reg [(none, (.mov (.tmp 0), .some 15)), (none, (.bin .rem (.tmp 15) (.const (.int .u32 2)), .some 16)), (none, (.mov (.tmp 16), .some 6))] []) (.seq
  (.reg [(none, (.mov (.tmp 0), .some 17)), (none, (.bin .quo (.tmp 17) (.const (.int .u32 2)), .some 18)), (none, (.mov (.tmp 18), .some 0))] []) (.seq
  (.reg [(none, (.mov (.tmp 6), .some 19)), (none, (.bin .eql (.tmp 19) (.const (.int .u32 1)), .some 20))] []) (.cond (.tmp 20)
  (.reg [(none, (.mov (.tmp 0), .some 21)), (none, (.bin .xor (.tmp 21) (.const (.int .u32 2197175160)), .some 22)), (none, (.mov (.tmp 22), .some 0))] []) .skip)))))
  (.reg [(none, (.mov (.tmp 5), .some 13)), (none, (.bin .add (.tmp 13) (.const (.int .i64 1)), .some 14)), (none, (.mov (.tmp 14), .some 5))] [])))))) (.seq
  (.reg [(none, (.mov (.tmp 0), .some 23)), (none, (.mov (.tmp 23), .some 4))] []) .ret)))
theorem b189 : Try.f189.body.bind (compC Try.prog) = some c189 := by kernel_rfl
theorem r189 : compR Try.prog Try.f189 = .some [.tmp 4] := by kernel_rfl
theorem n189 : (Try.f189.name == "runtime.NumGoroutine") = false := by kernel_rfl
def c196 : C := .seq
  (.reg [(none, (.mov (.const (.int .u32 0)), .some 2))] []) (.seq (.seq
  (.reg [(none, (.mov (.tmp 0), .some 3)), (none, (.bin .and (.tmp 3) (.const (.int .u32 1)), .some 4)), (none, (.bin .eql (.tmp 4) (.const (.int .u32 1)), .some 5))] []) (.cond (.tmp 5) (.seq
  (.reg [(none, (.mov (.tmp 0), .some 6)), (none, (.bin .shr (.tmp 6) (.const (.int .u64 1)), .some 7)), (none, (.bin .xor (.tmp 7) (.const (.int .u32 2197175160)), .some 8)), (none, (.mov (.tmp 8), .some 2))] []) .ret) .skip)) (.seq
  (.reg [(none, (.mov (.tmp 0), .some 9)), (none, (.bin .shr (.tmp 9) (.const (.int .u64 1)), .some 10)), (none, (.mov (.tmp 10), .some 2))] []) .ret))
theorem b196 : Try.f196.body.bind (compC Try.prog) = some c196 := by kernel_rfl
theorem r196 : compR Try.prog Try.f196 = .some [.tmp 2] := by kernel_rfl
theorem n196 : (Try.f196.name == "runtime.NumGoroutine") = false := by kernel_rfl
end Go.Proofs.Ytkhnfleejgfhgaa
