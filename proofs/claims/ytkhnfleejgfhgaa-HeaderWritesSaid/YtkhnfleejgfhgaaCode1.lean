/-
  The codes of the seat's functions over abstract values, each shown to be its function's own (by program: wip/tools/codes.py).
-/
import Derived.Test.YtkhnfleejgfhgaaA2
import Derived.Test.YtkhnfleejgfhgaaProg
import Derived.KernelRfl
namespace Go.Proofs.Ytkhnfleejgfhgaa
def c12 : C := .seq
  (.reg [(none, (.box (.tmp 0), .some 2)), (none, (.mov (.const (.bool .false)), .some 4))] []) (.seq (.seq
  (.reg [(none, (.mov (.tmp 1), .some 15)), (none, (.len .false (.tmp 15), .some 16)), (none, (.bin .gtr (.tmp 16) (.const (.int .i64 300)), .some 17))] []) (.cond (.tmp 17) (.seq
  (.reg [(none, (.call (.func 60) [], .some 18)), (none, (.mov (.tmp 18), .some 4))] []) .ret) .skip)) (.seq
  (.reg [(none, (.load (.some 3) (.tmp 2), .some 20)), (none, (.call (.func 61) [.tmp 20], .some 21)), (none, (.mov (.tmp 21), .some 19)), (none, (.ext (.tmp 19) 0, .some 22)), (none, (.ext (.tmp 19) 1, .some 23)), (none, (.mov (.tmp 22), .some 5)), (none, (.mov (.tmp 23), .some 6))] []) (.seq
  (.reg [(none, (.call (.func 53) [.const (.int .i64 40)], .some 24)), (none, (.mov (.tmp 24), .some 7))] []) (.seq
  (.reg [(none, (.mov (.tmp 7), .some 25)), (none, (.load (.some 3) (.tmp 2), .some 26)), (none, (.call (.func 71) [.tmp 25, .tmp 26], .some 27))] []) (.seq (.seq
  (.reg [(none, (.mov (.tmp 7), .some 29)), (none, (.call (.func 55) [.tmp 29], .some 30)), (none, (.mov (.tmp 30), .some 28)), (none, (.ext (.tmp 28) 0, .some 31)), (none, (.ext (.tmp 28) 1, .some 32)), (none, (.mov (.tmp 31), .some 8)), (none, (.mov (.tmp 32), .some 9))] []) (.seq
  (.reg [(none, (.mov (.tmp 9), .some 33)), (none, (.mov (.tmp 6), .some 34)), (none, (.bin .neq (.tmp 33) (.tmp 34), .some 35)), (none, (.mov (.tmp 35), .some 36)), (.some (36, .false), (.mov (.tmp 8), .some 37)), (.some (36, .false), (.mov (.tmp 5), .some 38)), (.some (36, .false), (.call (.func 23) [.tmp 37, .tmp 38], .some 39)), (.some (36, .false), (.un .not (.tmp 39), .some 40)), (none, (.pick (.tmp 36) (.const (.bool .true)) (.tmp 40), .some 41))] []) (.cond (.tmp 41) (.seq
  (.reg [(none, (.mov (.const (.bool .false)), .some 4))] []) .ret) .skip))) (.seq (.seq
  (.reg [(none, (.load (.some 3) (.tmp 2), .some 42)), (none, (.call (.func 72) [.tmp 42], .some 43)), (none, (.load (.some 3) (.tmp 2), .some 44)), (none, (.call (.func 59) [.tmp 44], .some 45)), (none, (.call (.func 58) [.tmp 45], .some 46)), (none, (.eqb .true (.tmp 43) (.tmp 46), .some 47))] [(0, 2), (1, 2)]) (.cond (.tmp 47) (.seq
  (.reg [(none, (.mov (.const (.bool .false)), .some 4))] []) .ret) .skip)) (.seq (.seq
  (.reg [(none, (.load (.some 3) (.tmp 2), .some 48)), (none, (.call (.func 59) [.tmp 48], .some 49)), (none, (.call (.func 58) [.tmp 49], .some 50)), (none, (.un .not (.tmp 50), .some 51))] []) (.cond (.tmp 51) (.seq
  (.reg [(none, (.mov (.tmp 6), .some 52)), (none, (.bin .eql (.tmp 52) (.const (.int .i64 3)), .some 53)), (none, (.mov (.tmp 53), .some 54)), (.some (54, .true), (.mov (.tmp 5), .some 55)), (.some (54, .true), (.len .false (.tmp 55), .some 56)), (.some (54, .true), (.bin .eql (.tmp 56) (.const (.int .i64 0)), .some 57)), (none, (.pick (.tmp 54) (.tmp 57) (.const (.bool .false)), .some 58)), (none, (.mov (.tmp 58), .some 59)), (.some (59, .true), (.call (.func 60) [], .some 60)), (none, (.pick (.tmp 59) (.tmp 60) (.const (.bool .false)), .some 61)), (none, (.mov (.tmp 61), .some 4))] []) .ret) .skip)) (.seq
  (.reg [(none, (.bsl 1 [], .some 63)), (none, (.mov (.tmp 5), .some 64)), (none, (.app 1 1 (.tmp 63) (.tmp 64), .some 65)), (none, (.mov (.tmp 1), .some 66)), (none, (.app 1 1 (.tmp 65) (.tmp 66), .some 67)), (none, (.call (.func 63) [.tmp 67], .some 68)), (none, (.mov (.tmp 68), .some 62)), (none, (.ext (.tmp 62) 0, .some 69)), (none, (.ext (.tmp 62) 1, .some 70)), (none, (.ext (.tmp 62) 2, .some 71)), (none, (.new [.int .i64 0, .int .u64 0, .int .u64 0], .some 10)), (none, (.new [.int .i64 0, .int .i64 0], .some 12)), (none, (.store 3 (.tmp 10) (.tmp 69), none)), (none, (.mov (.tmp 70), .some 11)), (none, (.store 2 (.tmp 12) (.tmp 71), none))] []) (.seq
  (.reg [(none, (.mov (.tmp 5), .some 73)), (none, (.call (.func 73) [.tmp 73], .some 74)), (none, (.mov (.tmp 74), .some 72)), (none, (.ext (.tmp 72) 0, .some 75)), (none, (.ext (.tmp 72) 1, .some 76)), (none, (.new [.int .i64 0, .int .i64 0], .some 14)), (none, (.mov (.tmp 75), .some 13)), (none, (.store 2 (.tmp 14) (.tmp 76), none))] []) (.seq
  (.reg [(none, (.mov (.tmp 6), .some 77)), (none, (.bin .eql (.tmp 77) (.const (.int .i64 0)), .some 78)), (none, (.mov (.tmp 78), .some 79)), (.some (79, .true), (.mov (.tmp 5), .some 80)), (.some (79, .true), (.load (.some 3) (.tmp 2), .some 81)), (.some (79, .true), (.call (.func 59) [.tmp 81], .some 82)), (.some (79, .true), (.call (.func 74) [.tmp 82], .some 83)), (.some (79, .true), (.call (.func 23) [.tmp 80, .tmp 83], .some 84)), (none, (.pick (.tmp 79) (.tmp 84) (.const (.bool .false)), .some 85)), (none, (.mov (.tmp 85), .some 86)), (.some (86, .true), (.fadr 0 (.tmp 12), .some 87)), (.some (86, .true), (.load none (.tmp 87), .some 88)), (.some (86, .true), (.bin .eql (.tmp 88) (.const (.int .i64 0)), .some 89)), (none, (.pick (.tmp 86) (.tmp 89) (.const (.bool .false)), .some 90)), (none, (.mov (.tmp 90), .some 91)), (.some (91, .true), (.load (.some 3) (.tmp 10), .some 92)), (.some (91, .true), (.load (.some 3) (.tmp 2), .some 93)), (.some (91, .true), (.eqa .false 3 (.tmp 92) (.tmp 93), .some 94)), (none, (.pick (.tmp 91) (.tmp 94) (.const (.bool .false)), .some 95)), (none, (.mov (.tmp 95), .some 96)), (.some (96, .true), (.mov (.tmp 11), .some 97)), (.some (96, .true), (.mov (.tmp 5), .some 98)), (.some (96, .true), (.len .false (.tmp 98), .some 99)), (.some (96, .true), (.bin .eql (.tmp 97) (.tmp 99), .some 100)), (none, (.pick (.tmp 96) (.tmp 100) (.const (.bool .false)), .some 101)), (none, (.mov (.tmp 101), .some 102)), (.some (102, .true), (.mov (.tmp 13), .some 103)), (.some (102, .true), (.fadr 0 (.tmp 2), .some 104)), (.some (102, .true), (.load none (.tmp 104), .some 105)), (.some (102, .true), (.bin .eql (.tmp 103) (.tmp 105), .some 106)), (none, (.pick (.tmp 102) (.tmp 106) (.const (.bool .false)), .some 107)), (none, (.mov (.tmp 107), .some 108)), (.some (108, .true), (.fadr 0 (.tmp 14), .some 109)), (.some (108, .true), (.load none (.tmp 109), .some 110)), (.some (108, .true), (.bin .eql (.tmp 110) (.const (.int .i64 0)), .some 111)), (none, (.pick (.tmp 108) (.tmp 111) (.const (.bool .false)), .some 112)), (none, (.mov (.tmp 112), .some 113)), (.some (113, .true), (.mov (.tmp 11), .some 114)), (.some (113, .true), (.call (.func 75) [], .some 115)), (.some (113, .true), (.bin .leq (.tmp 114) (.tmp 115), .some 116)), (none, (.pick (.tmp 113) (.tmp 116) (.const (.bool .false)), .some 117)), (none, (.mov (.tmp 117), .some 118)), (.some (118, .true), (.call (.func 60) [], .some 119)), (none, (.pick (.tmp 118) (.tmp 119) (.const (.bool .false)), .some 120)), (none, (.mov (.tmp 120), .some 4))] []) .ret))))))))))
theorem b12 : Try.f12.body.bind (compC Try.prog) = some c12 := by kernel_rfl
theorem r12 : compR Try.prog Try.f12 = .some [.tmp 4] := by kernel_rfl
theorem n12 : (Try.f12.name == "runtime.NumGoroutine") = false := by kernel_rfl
def c44 : C := .seq
  (.reg [(none, (.mov (.const (.pointer none)), .some 2))] []) (.seq
  (.reg [(none, (.mov (.tmp 0), .some 3)), (none, (.mov (.tmp 0), .some 4)), (none, (.len .false (.tmp 4), .some 5)), (none, (.mov (.tmp 0), .some 6)), (none, (.len .false (.tmp 6), .some 7)), (none, (.slice 1 (.tmp 3) none (.some (.tmp 5)) (.some (.tmp 7)), .some 8)), (none, (.build [.slice none 0 0, .int .i64 0, .int .i64 0, .int .i64 0] [(0, (1, .tmp 8))], .some 9)), (none, (.box (.tmp 9), .some 10)), (none, (.mov (.tmp 10), .some 2))] []) .ret)
theorem b44 : Try.f44.body.bind (compC Try.prog) = some c44 := by kernel_rfl
theorem r44 : compR Try.prog Try.f44 = .some [.tmp 2] := by kernel_rfl
theorem n44 : (Try.f44.name == "runtime.NumGoroutine") = false := by kernel_rfl
def c53 : C := .seq
  (.reg [(none, (.mov (.const (.pointer none)), .some 2))] []) (.seq
  (.reg [(none, (.mov (.tmp 0), .some 3)), (none, (.mx .true (.tmp 3) (.const (.int .i64 0)), .some 4)), (none, (.build [.int .i64 0, .slice none 0 0, .int .i64 0] [(0, (1, .tmp 4))], .some 5)), (none, (.box (.tmp 5), .some 6)), (none, (.mov (.tmp 6), .some 2))] []) .ret)
theorem b53 : Try.f53.body.bind (compC Try.prog) = some c53 := by kernel_rfl
theorem r53 : compR Try.prog Try.f53 = .some [.tmp 2] := by kernel_rfl
theorem n53 : (Try.f53.name == "runtime.NumGoroutine") = false := by kernel_rfl
def c59 : C := .seq
  (.reg [(none, (.box (.tmp 0), .some 1)), (none, (.new [.int .i64 0, .int .u64 0, .int .u64 0], .some 2))] []) (.seq
  (.reg [(none, (.fadr 0 (.tmp 1), .some 3)), (none, (.load none (.tmp 3), .some 4)), (none, (.fadr 1 (.tmp 1), .some 5)), (none, (.load none (.tmp 5), .some 6)), (none, (.fadr 2 (.tmp 1), .some 7)), (none, (.load none (.tmp 7), .some 8)), (none, (.build [.int .i64 0, .int .u64 0, .int .u64 0] [(0, (1, .tmp 4)), (1, (1, .tmp 6)), (2, (1, .tmp 8))], .some 9)), (none, (.store 3 (.tmp 2) (.tmp 9), none))] []) .ret)
theorem b59 : Try.f59.body.bind (compC Try.prog) = some c59 := by kernel_rfl
theorem r59 : compR Try.prog Try.f59 = .some [.cell 2 (.some 3)] := by kernel_rfl
theorem n59 : (Try.f59.name == "runtime.NumGoroutine") = false := by kernel_rfl
def c72 : C := .seq
  (.reg [(none, (.box (.tmp 0), .some 1)), (none, (.mov (.const (.bool .false)), .some 2))] []) (.seq
  (.reg [(none, (.fadr 0 (.tmp 1), .some 4)), (none, (.load none (.tmp 4), .some 5)), (none, (.bin .geq (.tmp 5) (.const (.int .i64 1)), .some 6)), (none, (.mov (.tmp 6), .some 7)), (.some (7, .true), (.fadr 0 (.tmp 1), .some 8)), (.some (7, .true), (.load none (.tmp 8), .some 9)), (.some (7, .true), (.bin .leq (.tmp 9) (.const (.int .i64 3)), .some 10)), (none, (.pick (.tmp 7) (.tmp 10) (.const (.bool .false)), .some 11)), (none, (.mov (.tmp 11), .some 3))] []) (.seq
  (.reg [(none, (.mov (.tmp 3), .some 12)), (none, (.mov (.tmp 12), .some 13)), (.some (13, .true), (.fadr 1 (.tmp 1), .some 14)), (.some (13, .true), (.load none (.tmp 14), .some 15)), (.some (13, .true), (.call (.func 143) [.tmp 15], .some 16)), (none, (.pick (.tmp 13) (.tmp 16) (.const (.bool .false)), .some 17)), (none, (.mov (.tmp 17), .some 18)), (.some (18, .true), (.fadr 2 (.tmp 1), .some 19)), (.some (18, .true), (.load none (.tmp 19), .some 20)), (.some (18, .true), (.call (.func 144) [.tmp 20], .some 21)), (none, (.pick (.tmp 18) (.tmp 21) (.const (.bool .false)), .some 22)), (none, (.mov (.tmp 22), .some 23)), (.some (23, .true), (.fadr 0 (.tmp 1), .some 24)), (.some (23, .true), (.load none (.tmp 24), .some 25)), (.some (23, .true), (.call (.func 145) [.tmp 25], .some 26)), (.some (23, .true), (.mov (.tmp 26), .some 27)), (.some (27, .false), (.fadr 2 (.tmp 1), .some 28)), (.some (27, .false), (.load none (.tmp 28), .some 29)), (.some (27, .false), (.bin .eql (.tmp 29) (.const (.int .u64 0)), .some 30)), (.some (23, .true), (.pick (.tmp 27) (.const (.bool .true)) (.tmp 30), .some 31)), (none, (.pick (.tmp 23) (.tmp 31) (.const (.bool .false)), .some 32)), (none, (.mov (.tmp 32), .some 2))] []) .ret))
theorem b72 : Try.f72.body.bind (compC Try.prog) = some c72 := by kernel_rfl
theorem r72 : compR Try.prog Try.f72 = .some [.tmp 2] := by kernel_rfl
theorem n72 : (Try.f72.name == "runtime.NumGoroutine") = false := by kernel_rfl
def c96 : C := .seq
  (.reg [(none, (.mov (.const (.int .u8 0)), .some 2))] []) (.seq (.seq
  (.reg [(none, (.mov (.tmp 0), .some 3)), (none, (.call (.func 78) [.tmp 3, .const (.int .i64 1)], .some 4)), (none, (.un .not (.tmp 4), .some 5))] []) (.cond (.tmp 5) (.seq
  (.reg [(none, (.mov (.const (.int .u8 0)), .some 2))] []) .ret) .skip)) (.seq
  (.reg [(none, (.mov (.tmp 0), .some 6)), (none, (.nilc (.tmp 6), .some 7)), (none, (.fadr 0 (.tmp 7), .some 8)), (none, (.load none (.tmp 8), .some 9)), (none, (.mov (.tmp 0), .some 10)), (none, (.nilc (.tmp 10), .some 11)), (none, (.fadr 1 (.tmp 11), .some 12)), (none, (.load none (.tmp 12), .some 13)), (none, (.bin .sub (.tmp 13) (.const (.int .i64 1)), .some 14)), (none, (.iadr 1 (.tmp 9) (.tmp 14), .some 15)), (none, (.load none (.tmp 15), .some 16)), (none, (.mov (.tmp 16), .some 2))] [(3, 7)]) .ret))
theorem b96 : Try.f96.body.bind (compC Try.prog) = some c96 := by kernel_rfl
theorem r96 : compR Try.prog Try.f96 = .some [.tmp 2] := by kernel_rfl
theorem n96 : (Try.f96.name == "runtime.NumGoroutine") = false := by kernel_rfl
def c98 : C := .seq
  (.reg [(none, (.mov (.const (.int .u64 0)), .some 2))] []) (.seq
  (.reg [(none, (.mov (.tmp 0), .some 3)), (none, (.call (.func 164) [.tmp 3, .func 143], .some 4)), (none, (.mov (.tmp 4), .some 2))] []) .ret)
theorem b98 : Try.f98.body.bind (compC Try.prog) = some c98 := by kernel_rfl
theorem r98 : compR Try.prog Try.f98 = .some [.tmp 2] := by kernel_rfl
theorem n98 : (Try.f98.name == "runtime.NumGoroutine") = false := by kernel_rfl
def c100 : C := .seq
  (.reg [(none, (.mov (.const (.int .u64 0)), .some 2))] []) (.scope (.seq
  (.reg [(none, (.mov (.const (.int .u64 0)), .some 3))] []) (.seq
  (.reg [(none, (.mov (.const (.int .u8 0)), .some 4))] []) (.seq
  (.reg [(none, (.mov (.tmp 0), .some 7)), (none, (.call (.func 49) [.tmp 7], .some 8)), (none, (.mov (.const (.int .i64 0)), .some 5)), (none, (.mov (.tmp 8), .some 6))] []) (.seq (.label 0) (.seq
  (.reg [(none, (.mov (.tmp 0), .some 9)), (none, (.call (.func 96) [.tmp 9], .some 10)), (none, (.mov (.tmp 10), .some 4))] []) (.seq (.block 0 (.seq
  (.reg [(none, (.mov (.tmp 0), .some 12)), (none, (.call (.func 57) [.tmp 12], .some 13)), (none, (.un .not (.tmp 13), .some 14)), (none, (.mov (.tmp 14), .some 11))] []) (.cond (.tmp 11) (.seq
  (.reg [(none, (.mov (.const (.int .u64 0)), .some 2))] []) .ret) (.seq
  (.reg [(none, (.mov (.tmp 5), .some 16)), (none, (.bin .eql (.tmp 16) (.const (.int .i64 63)), .some 17)), (none, (.mov (.tmp 17), .some 18)), (.some (18, .true), (.mov (.tmp 4), .some 19)), (.some (18, .true), (.bin .gtr (.tmp 19) (.const (.int .u8 1)), .some 20)), (none, (.pick (.tmp 18) (.tmp 20) (.const (.bool .false)), .some 21)), (none, (.mov (.tmp 21), .some 15))] []) (.cond (.tmp 15) (.seq
  (.reg [(none, (.mov (.tmp 0), .some 22)), (none, (.mov (.tmp 0), .some 23)), (none, (.call (.func 49) [.tmp 23], .some 24)), (none, (.bin .sub (.tmp 24) (.const (.int .i64 1)), .some 25)), (none, (.call (.func 97) [.tmp 22, .const (.int .i64 5), .tmp 25], .some 26))] []) (.seq
  (.reg [(none, (.mov (.const (.int .u64 0)), .some 2))] []) .ret)) (.seq
  (.reg [(none, (.mov (.tmp 4), .some 28)), (none, (.bin .eql (.tmp 28) (.const (.int .u8 0)), .some 29)), (none, (.mov (.tmp 29), .some 30)), (.some (30, .true), (.mov (.tmp 0), .some 31)), (.some (30, .true), (.call (.func 49) [.tmp 31], .some 32)), (.some (30, .true), (.bin .sub (.tmp 32) (.const (.int .i64 1)), .some 33)), (.some (30, .true), (.mov (.tmp 6), .some 34)), (.some (30, .true), (.bin .gtr (.tmp 33) (.tmp 34), .some 35)), (none, (.pick (.tmp 30) (.tmp 35) (.const (.bool .false)), .some 36)), (none, (.mov (.tmp 36), .some 27))] []) (.cond (.tmp 27) (.seq
  (.reg [(none, (.mov (.tmp 0), .some 37)), (none, (.mov (.tmp 0), .some 38)), (none, (.call (.func 49) [.tmp 38], .some 39)), (none, (.bin .sub (.tmp 39) (.const (.int .i64 1)), .some 40)), (none, (.call (.func 97) [.tmp 37, .const (.int .i64 4), .tmp 40], .some 41))] []) (.seq
  (.reg [(none, (.mov (.const (.int .u64 0)), .some 2))] []) .ret)) .skip))))))) (.seq
  (.reg [(none, (.mov (.tmp 3), .some 42)), (none, (.mov (.tmp 4), .some 43)), (none, (.bin .rem (.tmp 43) (.const (.int .u8 128)), .some 44)), (none, (.cvt .u64 (.tmp 44), .some 45)), (none, (.mov (.tmp 5), .some 46)), (none, (.bin .shl (.tmp 45) (.tmp 46), .some 47)), (none, (.bin .or (.tmp 42) (.tmp 47), .some 48)), (none, (.mov (.tmp 48), .some 3))] []) (.seq
  (.reg [(none, (.mov (.tmp 5), .some 49)), (none, (.bin .add (.tmp 49) (.const (.int .i64 7)), .some 50)), (none, (.mov (.tmp 50), .some 5))] []) (.seq (.seq
  (.reg [(none, (.mov (.tmp 4), .some 51)), (none, (.bin .geq (.tmp 51) (.const (.int .u8 128)), .some 52))] []) (.cond (.tmp 52) (.goto 0) .skip)) (.seq
  (.reg [(none, (.mov (.tmp 3), .some 53)), (none, (.mov (.tmp 53), .some 2))] []) .ret)))))))))))
theorem b100 : Try.f100.body.bind (compC Try.prog) = some c100 := by kernel_rfl
theorem r100 : compR Try.prog Try.f100 = .some [.tmp 2] := by kernel_rfl
theorem n100 : (Try.f100.name == "runtime.NumGoroutine") = false := by kernel_rfl
def c133 : C := .seq
  (.reg [(none, (.mov (.const (.bool .false)), .some 2))] []) (.seq
  (.reg [(none, (.mov (.tmp 0), .some 3)), (none, (.bin .leq (.tmp 3) (.const (.int .u64 4611686018427387903)), .some 4)), (none, (.mov (.tmp 4), .some 2))] []) .ret)
theorem b133 : Try.f133.body.bind (compC Try.prog) = some c133 := by kernel_rfl
theorem r133 : compR Try.prog Try.f133 = .some [.tmp 2] := by kernel_rfl
theorem n133 : (Try.f133.name == "runtime.NumGoroutine") = false := by kernel_rfl
def c139 : C := .seq
  (.reg [(none, (.box (.tmp 0), .some 1)), (none, (.mov (.const (.slice none 0 0)), .some 2))] []) (.seq
  (.reg [(none, (.call (.func 75) [], .some 6)), (none, (.call (.func 53) [.tmp 6], .some 7)), (none, (.mov (.tmp 7), .some 3))] []) (.seq
  (.reg [(none, (.mov (.tmp 3), .some 8)), (none, (.call (.func 163) [.tmp 8, .const (.string (.mk (#[84, 72, 79, 76])))], .some 9))] []) (.seq
  (.reg [(none, (.mov (.tmp 3), .some 10)), (none, (.fadr 0 (.tmp 1), .some 11)), (none, (.load none (.tmp 11), .some 12)), (none, (.cvt .u8 (.tmp 12), .some 13)), (none, (.bsl 1 [.tmp 13], .some 14)), (none, (.call (.func 140) [.tmp 10, .tmp 14], .some 15))] []) (.seq
  (.reg [(none, (.mov (.tmp 3), .some 16)), (none, (.fadr 1 (.tmp 1), .some 17)), (none, (.load none (.tmp 17), .some 18)), (none, (.call (.func 160) [.tmp 16, .tmp 18], .some 19))] []) (.seq (.seq
  (.reg [(none, (.fadr 0 (.tmp 1), .some 20)), (none, (.load none (.tmp 20), .some 21)), (none, (.call (.func 145) [.tmp 21], .some 22))] []) (.cond (.tmp 22)
  (.reg [(none, (.mov (.tmp 3), .some 23)), (none, (.fadr 2 (.tmp 1), .some 24)), (none, (.load none (.tmp 24), .some 25)), (none, (.call (.func 173) [.tmp 23, .tmp 25], .some 26))] []) .skip)) (.seq
  (.reg [(none, (.mov (.tmp 3), .some 28)), (none, (.call (.func 55) [.tmp 28], .some 29)), (none, (.mov (.tmp 29), .some 27)), (none, (.ext (.tmp 27) 0, .some 30)), (none, (.ext (.tmp 27) 1, .some 31)), (none, (.mov (.tmp 30), .some 4)), (none, (.mov (.tmp 31), .some 5))] []) (.seq
  (.reg [(none, (.mov (.tmp 4), .some 32)), (none, (.mov (.tmp 32), .some 2))] []) .ret)))))))
theorem b139 : Try.f139.body.bind (compC Try.prog) = some c139 := by kernel_rfl
theorem r139 : compR Try.prog Try.f139 = .some [.tmp 2] := by kernel_rfl
theorem n139 : (Try.f139.name == "runtime.NumGoroutine") = false := by kernel_rfl
def c141 : C := .reg [(none, (.mov (.tmp 0), .some 6)), (none, (.mov (.tmp 1), .some 7)), (none, (.mov (.tmp 2), .some 8)), (none, (.call (.func 162) [.tmp 7, .tmp 8], .some 9)), (none, (.call (.func 140) [.tmp 6, .tmp 9], .some 10))] []
theorem b141 : Try.f141.body.bind (compC Try.prog) = some c141 := by kernel_rfl
theorem r141 : compR Try.prog Try.f141 = .some [] := by kernel_rfl
theorem n141 : (Try.f141.name == "runtime.NumGoroutine") = false := by kernel_rfl
def c147 : C := .seq
  (.reg [(none, (.mov (.const (.slice none 0 0)), .some 4))] []) (.seq
  (.reg [(none, (.mov (.const (.slice none 0 0)), .some 5))] []) (.seq (.seq
  (.reg [(none, (.mov (.const (.int .i64 0)), .some 6))] []) (.block 0 (.loop (.seq (.seq
  (.reg [(none, (.mov (.tmp 6), .some 7)), (none, (.mov (.tmp 1), .some 8)), (none, (.bin .lss (.tmp 7) (.tmp 8), .some 9)), (none, (.mov (.tmp 9), .some 10)), (.some (10, .true), (.mov (.tmp 6), .some 11)), (.some (10, .true), (.bin .lss (.tmp 11) (.const (.int .i64 8)), .some 12)), (none, (.pick (.tmp 10) (.tmp 12) (.const (.bool .false)), .some 13))] []) (.cond (.tmp 13) .skip (.exit 0))) (.seq (.block 1
  (.reg [(none, (.mov (.tmp 5), .some 16)), (none, (.mov (.tmp 0), .some 17)), (none, (.mov (.tmp 6), .some 18)), (none, (.bin .mul (.const (.int .i64 8)) (.tmp 18), .some 19)), (none, (.cvt .u64 (.tmp 19), .some 20)), (none, (.bin .shr (.tmp 17) (.tmp 20), .some 21)), (none, (.cvt .u8 (.tmp 21), .some 22)), (none, (.bsl 1 [.tmp 22], .some 23)), (none, (.app 1 1 (.tmp 16) (.tmp 23), .some 24)), (none, (.mov (.tmp 24), .some 5))] []))
  (.reg [(none, (.mov (.tmp 6), .some 14)), (none, (.bin .add (.tmp 14) (.const (.int .i64 1)), .some 15)), (none, (.mov (.tmp 15), .some 6))] [])))))) (.seq
  (.reg [(none, (.mov (.tmp 5), .some 25)), (none, (.mov (.tmp 25), .some 4))] []) .ret)))
theorem b147 : Try.f147.body.bind (compC Try.prog) = some c147 := by kernel_rfl
theorem r147 : compR Try.prog Try.f147 = .some [.tmp 4] := by kernel_rfl
theorem n147 : (Try.f147.name == "runtime.NumGoroutine") = false := by kernel_rfl
def c163 : C := .reg [(none, (.mov (.tmp 0), .some 4)), (none, (.mov (.tmp 1), .some 5)), (none, (.s2b (.tmp 5), .some 6)), (none, (.call (.func 140) [.tmp 4, .tmp 6], .some 7))] []
theorem b163 : Try.f163.body.bind (compC Try.prog) = some c163 := by kernel_rfl
theorem r163 : compR Try.prog Try.f163 = .some [] := by kernel_rfl
theorem n163 : (Try.f163.name == "runtime.NumGoroutine") = false := by kernel_rfl
def c172 : C := .seq
  (.reg [(none, (.mov (.const (.slice none 0 0)), .some 2))] []) (.seq
  (.reg [(none, (.mov (.const (.slice none 0 0)), .some 3))] []) (.seq (.block 0 (.loop (.seq (.seq
  (.reg [(none, (.mov (.tmp 0), .some 4)), (none, (.bin .geq (.tmp 4) (.const (.int .u64 128)), .some 5))] []) (.cond (.tmp 5) .skip (.exit 0))) (.block 1 (.seq
  (.reg [(none, (.mov (.tmp 3), .some 6)), (none, (.mov (.tmp 0), .some 7)), (none, (.cvt .u8 (.tmp 7), .some 8)), (none, (.bin .or (.tmp 8) (.const (.int .u8 128)), .some 9)), (none, (.bsl 1 [.tmp 9], .some 10)), (none, (.app 1 1 (.tmp 6) (.tmp 10), .some 11)), (none, (.mov (.tmp 11), .some 3))] [])
  (.reg [(none, (.mov (.tmp 0), .some 12)), (none, (.bin .shr (.tmp 12) (.const (.int .u64 7)), .some 13)), (none, (.mov (.tmp 13), .some 0))] [])))))) (.seq
  (.reg [(none, (.mov (.tmp 3), .some 14)), (none, (.mov (.tmp 0), .some 15)), (none, (.cvt .u8 (.tmp 15), .some 16)), (none, (.bsl 1 [.tmp 16], .some 17)), (none, (.app 1 1 (.tmp 14) (.tmp 17), .some 18)), (none, (.mov (.tmp 18), .some 2))] []) .ret)))
theorem b172 : Try.f172.body.bind (compC Try.prog) = some c172 := by kernel_rfl
theorem r172 : compR Try.prog Try.f172 = .some [.tmp 2] := by kernel_rfl
theorem n172 : (Try.f172.name == "runtime.NumGoroutine") = false := by kernel_rfl
def c176 : C := .seq
  (.reg [(none, (.mov (.const (.int .u32 0)), .some 4))] []) (.seq
  (.reg [(none, (.call (.func 188) [], .some 8)), (none, (.new [.int .u32 0, .int .u32 0, .int .u32 0, .int .u32 0, .int .u32 0, .int .u32 0, .int .u32 0, .int .u32 0, .int .u32 0, .int .u32 0, .int .u32 0, .int .u32 0, .int .u32 0, .int .u32 0, .int .u32 0, .int .u32 0], .some 5)), (none, (.store 16 (.tmp 5) (.tmp 8), none))] []) (.seq (.seq
  (.reg [(none, (.mov (.tmp 1), .some 9)), (none, (.len .false (.tmp 9), .some 10)), (none, (.mov (.const (.int .i64 0)), .some 11))] []) (.block 0 (.loop (.seq
  (.reg [(none, (.bin .lss (.tmp 11) (.tmp 10), .some 12))] []) (.seq (.cond (.tmp 12) .skip (.exit 0)) (.seq (.block 1 (.seq
  (.reg [(none, (.iadr 1 (.tmp 9) (.tmp 11), .some 13)), (none, (.load none (.tmp 13), .some 14)), (none, (.mov (.tmp 14), .some 7))] []) (.seq
  (.reg [(none, (.mov (.tmp 0), .some 15)), (none, (.mov (.tmp 7), .some 16)), (none, (.cvt .u32 (.tmp 16), .some 17)), (none, (.bin .xor (.tmp 15) (.tmp 17), .some 18)), (none, (.mov (.tmp 18), .some 0))] []) (.seq
  (.reg [(none, (.mov (.tmp 0), .some 19)), (none, (.bin .shr (.tmp 19) (.const (.int .u64 4)), .some 20)), (none, (.mov (.tmp 0), .some 21)), (none, (.bin .and (.tmp 21) (.const (.int .u32 15)), .some 22)), (none, (.aadr 16 1 (.tmp 5) (.tmp 22), .some 23)), (none, (.load none (.tmp 23), .some 24)), (none, (.bin .xor (.tmp 20) (.tmp 24), .some 25)), (none, (.mov (.tmp 25), .some 0))] [])
  (.reg [(none, (.mov (.tmp 0), .some 26)), (none, (.bin .shr (.tmp 26) (.const (.int .u64 4)), .some 27)), (none, (.mov (.tmp 0), .some 28)), (none, (.bin .and (.tmp 28) (.const (.int .u32 15)), .some 29)), (none, (.aadr 16 1 (.tmp 5) (.tmp 29), .some 30)), (none, (.load none (.tmp 30), .some 31)), (none, (.bin .xor (.tmp 27) (.tmp 31), .some 32)), (none, (.mov (.tmp 32), .some 0))] [])))))
  (.reg [(none, (.bin .add (.tmp 11) (.const (.int .i64 1)), .some 33)), (none, (.mov (.tmp 33), .some 11))] []))))))) (.seq
  (.reg [(none, (.mov (.tmp 0), .some 34)), (none, (.mov (.tmp 34), .some 4))] []) .ret)))
theorem b176 : Try.f176.body.bind (compC Try.prog) = some c176 := by kernel_rfl
theorem r176 : compR Try.prog Try.f176 = .some [.tmp 4] := by kernel_rfl
theorem n176 : (Try.f176.name == "runtime.NumGoroutine") = false := by kernel_rfl
def c179 : C := .seq
  (.reg [(none, (.mov (.const (.int .u32 0)), .some 4))] []) (.seq (.seq
  (.reg [(none, (.mov (.const (.int .i64 0)), .some 5))] []) (.block 0 (.loop (.seq (.seq
  (.reg [(none, (.mov (.tmp 5), .some 6)), (none, (.mov (.tmp 1), .some 7)), (none, (.len .false (.tmp 7), .some 8)), (none, (.bin .lss (.tmp 6) (.tmp 8), .some 9))] []) (.cond (.tmp 9) .skip (.exit 0))) (.seq (.block 1
  (.reg [(none, (.mov (.tmp 0), .some 12)), (none, (.mov (.tmp 1), .some 13)), (none, (.mov (.tmp 5), .some 14)), (none, (.iadr 1 (.tmp 13) (.tmp 14), .some 15)), (none, (.load none (.tmp 15), .some 16)), (none, (.call (.func 189) [.tmp 12, .tmp 16], .some 17)), (none, (.mov (.tmp 17), .some 0))] []))
  (.reg [(none, (.mov (.tmp 5), .some 10)), (none, (.bin .add (.tmp 10) (.const (.int .i64 1)), .some 11)), (none, (.mov (.tmp 11), .some 5))] [])))))) (.seq
  (.reg [(none, (.mov (.tmp 0), .some 18)), (none, (.mov (.tmp 18), .some 4))] []) .ret))
theorem b179 : Try.f179.body.bind (compC Try.prog) = some c179 := by kernel_rfl
theorem r179 : compR Try.prog Try.f179 = .some [.tmp 4] := by kernel_rfl
theorem n179 : (Try.f179.name == "runtime.NumGoroutine") = false := by kernel_rfl
def c186 : C := .seq (.seq
  (.reg [(none, (.mov (.tmp 2), .some 6)), (none, (.un .not (.tmp 6), .some 7))] []) (.cond (.tmp 7) (.seq
  (.reg [(none, (.mov (.tmp 0), .some 8)), (none, (.call (.func 126) [.tmp 8, .const (.int .i64 3)], .some 9))] []) .ret) .skip))
  (.reg [(none, (.mov (.tmp 0), .some 10)), (none, (.mov (.tmp 1), .some 11)), (none, (.call (.func 127) [.tmp 10, .tmp 11], .some 12))] [])
theorem b186 : Try.f186.body.bind (compC Try.prog) = some c186 := by kernel_rfl
theorem r186 : compR Try.prog Try.f186 = .some [] := by kernel_rfl
theorem n186 : (Try.f186.name == "runtime.NumGoroutine") = false := by kernel_rfl
def c196 : C := .seq
  (.reg [(none, (.mov (.const (.int .u32 0)), .some 2))] []) (.seq (.seq
  (.reg [(none, (.mov (.tmp 0), .some 3)), (none, (.bin .and (.tmp 3) (.const (.int .u32 1)), .some 4)), (none, (.bin .eql (.tmp 4) (.const (.int .u32 1)), .some 5))] []) (.cond (.tmp 5) (.seq
  (.reg [(none, (.mov (.tmp 0), .some 6)), (none, (.bin .shr (.tmp 6) (.const (.int .u64 1)), .some 7)), (none, (.bin .xor (.tmp 7) (.const (.int .u32 2197175160)), .some 8)), (none, (.mov (.tmp 8), .some 2))] []) .ret) .skip)) (.seq
  (.reg [(none, (.mov (.tmp 0), .some 9)), (none, (.bin .shr (.tmp 9) (.const (.int .u64 1)), .some 10)), (none, (.mov (.tmp 10), .some 2))] []) .ret))
theorem b196 : Try.f196.body.bind (compC Try.prog) = some c196 := by kernel_rfl
theorem r196 : compR Try.prog Try.f196 = .some [.tmp 2] := by kernel_rfl
theorem n196 : (Try.f196.name == "runtime.NumGoroutine") = false := by kernel_rfl
end Go.Proofs.Ytkhnfleejgfhgaa
