/-
  The codes of the seat's functions over abstract values, each shown to be its function's own (by program: wip/tools/codes.py).
-/
import Derived.Test.YtkhnfleejgfhgaaA2
import Derived.Test.YtkhnfleejgfhgaaProg
import Derived.KernelRfl
namespace Go.Proofs.Ytkhnfleejgfhgaa
def c44 : C := .seq
  (.reg [(none, (.mov (.const (.pointer none)), .some 2))] []) (.seq
  (.reg [(none, (.mov (.tmp 0), .some 3)), (none, (.mov (.tmp 0), .some 4)), (none, (.len .false (.tmp 4), .some 5)), (none, (.mov (.tmp 0), .some 6)), (none, (.len .false (.tmp 6), .some 7)), (none, (.slice 1 (.tmp 3) none (.some (.tmp 5)) (.some (.tmp 7)), .some 8)), (none, (.build [.slice none 0 0, .int .i64 0, .int .i64 0, .int .i64 0] [(0, (1, .tmp 8))], .some 9)), (none, (.box (.tmp 9), .some 10)), (none, (.mov (.tmp 10), .some 2))] []) .ret)
theorem b44 : Try.f44.body.bind (compC Try.prog) = some c44 := by kernel_rfl
theorem r44 : compR Try.prog Try.f44 = .some [.tmp 2] := by kernel_rfl
theorem n44 : (Try.f44.name == "runtime.NumGoroutine") = false := by kernel_rfl
def c55 : C := .seq
  (.reg [(none, (.mov (.const (.slice none 0 0)), .some 2)), (none, (.mov (.const (.int .i64 0)), .some 3))] []) (.seq (.seq
  (.reg [(none, (.mov (.tmp 0), .some 5)), (none, (.call (.func 130) [.tmp 5], .some 6)), (none, (.mov (.tmp 6), .some 4))] []) (.seq
  (.reg [(none, (.mov (.tmp 4), .some 7)), (none, (.bin .neq (.tmp 7) (.const (.int .i64 0)), .some 8))] []) (.cond (.tmp 8) (.seq
  (.reg [(none, (.mov (.tmp 4), .some 9)), (none, (.mov (.const (.slice none 0 0)), .some 2)), (none, (.mov (.tmp 9), .some 3))] []) .ret) .skip))) (.seq
  (.reg [(none, (.bsl 1 [], .some 10)), (none, (.mov (.tmp 0), .some 11)), (none, (.nilc (.tmp 11), .some 12)), (none, (.fadr 1 (.tmp 12), .some 13)), (none, (.load none (.tmp 13), .some 14)), (none, (.app 1 1 (.tmp 10) (.tmp 14), .some 15)), (none, (.mov (.tmp 15), .some 2)), (none, (.mov (.const (.int .i64 0)), .some 3))] []) .ret))
theorem b55 : Try.f55.body.bind (compC Try.prog) = some c55 := by kernel_rfl
theorem r55 : compR Try.prog Try.f55 = .some [.tmp 2, .tmp 3] := by kernel_rfl
theorem n55 : (Try.f55.name == "runtime.NumGoroutine") = false := by kernel_rfl
def c78 : C := .seq
  (.reg [(none, (.mov (.const (.bool .false)), .some 4))] []) (.seq (.block 0 (.seq
  (.reg [(none, (.mov (.tmp 0), .some 6)), (none, (.call (.func 57) [.tmp 6], .some 7)), (none, (.un .not (.tmp 7), .some 8)), (none, (.mov (.tmp 8), .some 5))] []) (.cond (.tmp 5) (.seq
  (.reg [(none, (.mov (.const (.bool .false)), .some 4))] []) .ret) (.seq
  (.reg [(none, (.mov (.tmp 1), .some 10)), (none, (.bin .lss (.tmp 10) (.const (.int .i64 0)), .some 11)), (none, (.mov (.tmp 11), .some 9))] []) (.cond (.tmp 9) (.seq
  (.reg [(none, (.mov (.tmp 0), .some 12)), (none, (.mov (.tmp 0), .some 13)), (none, (.nilc (.tmp 13), .some 14)), (none, (.fadr 1 (.tmp 14), .some 15)), (none, (.load none (.tmp 15), .some 16)), (none, (.call (.func 97) [.tmp 12, .const (.int .i64 17), .tmp 16], .some 17))] []) (.seq
  (.reg [(none, (.mov (.const (.bool .false)), .some 4))] []) .ret)) (.seq
  (.reg [(none, (.mov (.tmp 1), .some 19)), (none, (.mov (.tmp 0), .some 20)), (none, (.call (.func 150) [.tmp 20], .some 21)), (none, (.bin .gtr (.tmp 19) (.tmp 21), .some 22)), (none, (.mov (.tmp 22), .some 18))] []) (.cond (.tmp 18) (.seq
  (.reg [(none, (.mov (.tmp 0), .some 23)), (none, (.mov (.tmp 0), .some 24)), (none, (.nilc (.tmp 24), .some 25)), (none, (.fadr 0 (.tmp 25), .some 26)), (none, (.load none (.tmp 26), .some 27)), (none, (.len .false (.tmp 27), .some 28)), (none, (.call (.func 97) [.tmp 23, .const (.int .i64 1), .tmp 28], .some 29))] []) (.seq
  (.reg [(none, (.mov (.const (.bool .false)), .some 4))] []) .ret)) .skip))))))) (.seq
  (.reg [(none, (.mov (.tmp 0), .some 30)), (none, (.nilc (.tmp 30), .some 31)), (none, (.fadr 1 (.tmp 31), .some 32)), (none, (.load none (.tmp 32), .some 33)), (none, (.mov (.tmp 1), .some 34)), (none, (.bin .add (.tmp 33) (.tmp 34), .some 35)), (none, (.nilc (.tmp 30), .some 36)), (none, (.fadr 1 (.tmp 36), .some 37)), (none, (.store 1 (.tmp 37) (.tmp 35), none))] []) (.seq
  (.reg [(none, (.mov (.const (.bool .true)), .some 4))] []) .ret)))
theorem b78 : Try.f78.body.bind (compC Try.prog) = some c78 := by kernel_rfl
theorem r78 : compR Try.prog Try.f78 = .some [.tmp 4] := by kernel_rfl
theorem n78 : (Try.f78.name == "runtime.NumGoroutine") = false := by kernel_rfl
def c85 : C := .seq
  (.reg [(none, (.new [.int .u64 0, .int .i64 0, .int .i64 0, .int .u64 0, .int .u64 0, .int .i64 0, .int .i64 0], .some 2)), (none, (.mov (.const (.int .i64 0)), .some 3)), (none, (.new [.int .i64 0, .int .i64 0], .some 4))] []) (.seq
  (.reg [(none, (.mov (.tmp 0), .some 13)), (none, (.call (.func 153) [.tmp 13], .some 14)), (none, (.mov (.tmp 14), .some 12)), (none, (.ext (.tmp 12) 0, .some 15)), (none, (.ext (.tmp 12) 1, .some 16)), (none, (.new [.int .i64 0, .int .i64 0], .some 6)), (none, (.mov (.tmp 15), .some 5)), (none, (.store 2 (.tmp 6) (.tmp 16), none))] []) (.seq (.seq
  (.reg [(none, (.load (.some 2) (.tmp 6), .some 17)), (none, (.call (.func 102) [.tmp 17], .some 18)), (none, (.un .not (.tmp 18), .some 19))] []) (.cond (.tmp 19) (.seq
  (.reg [(none, (.build [.int .u64 0, .int .i64 0, .int .i64 0, .int .u64 0, .int .u64 0, .int .i64 0, .int .i64 0] [], .some 20)), (none, (.load (.some 2) (.tmp 6), .some 21)), (none, (.store 7 (.tmp 2) (.tmp 20), none)), (none, (.mov (.const (.int .i64 0)), .some 3)), (none, (.store 2 (.tmp 4) (.tmp 21), none))] [(1, 2)]) .ret) .skip)) (.seq
  (.reg [(none, (.mov (.tmp 0), .some 22)), (none, (.len .false (.tmp 22), .some 23)), (none, (.call (.func 95) [], .some 24)), (none, (.bin .sub (.tmp 23) (.tmp 24), .some 25)), (none, (.mov (.tmp 25), .some 7))] []) (.seq
  (.reg [(none, (.mov (.tmp 7), .some 26)), (none, (.mov (.tmp 5), .some 27)), (none, (.bin .sub (.tmp 26) (.tmp 27), .some 28)), (none, (.mov (.tmp 28), .some 8))] []) (.seq
  (.reg [(none, (.mov (.tmp 0), .some 30)), (none, (.mov (.tmp 8), .some 31)), (none, (.mov (.tmp 7), .some 32)), (none, (.slice 1 (.tmp 30) (.some (.tmp 31)) (.some (.tmp 32)) none, .some 33)), (none, (.call (.func 154) [.tmp 33, .const (.int .i64 2097152)], .some 34)), (none, (.mov (.tmp 34), .some 29)), (none, (.ext (.tmp 29) 0, .some 35)), (none, (.ext (.tmp 29) 1, .some 36)), (none, (.ext (.tmp 29) 2, .some 37)), (none, (.mov (.tmp 35), .some 9)), (none, (.mov (.tmp 36), .some 10)), (none, (.store 2 (.tmp 6) (.tmp 37), none))] []) (.seq (.block 0 (.seq
  (.reg [(none, (.load (.some 2) (.tmp 6), .some 39)), (none, (.call (.func 102) [.tmp 39], .some 40)), (none, (.un .not (.tmp 40), .some 41)), (none, (.mov (.tmp 41), .some 38))] []) (.cond (.tmp 38) (.seq
  (.reg [(none, (.build [.int .u64 0, .int .i64 0, .int .i64 0, .int .u64 0, .int .u64 0, .int .i64 0, .int .i64 0] [], .some 42)), (none, (.load (.some 2) (.tmp 6), .some 43)), (none, (.mov (.tmp 8), .some 44)), (none, (.call (.func 155) [.tmp 43, .tmp 44], .some 45)), (none, (.store 7 (.tmp 2) (.tmp 42), none)), (none, (.mov (.const (.int .i64 0)), .some 3)), (none, (.store 2 (.tmp 4) (.tmp 45), none))] []) .ret) (.seq
  (.reg [(none, (.mov (.tmp 10), .some 47)), (none, (.mov (.tmp 5), .some 48)), (none, (.bin .lss (.tmp 47) (.tmp 48), .some 49)), (none, (.mov (.tmp 49), .some 46))] []) (.cond (.tmp 46) (.seq
  (.reg [(none, (.build [.int .u64 0, .int .i64 0, .int .i64 0, .int .u64 0, .int .u64 0, .int .i64 0, .int .i64 0] [], .some 50)), (none, (.mov (.tmp 8), .some 51)), (none, (.mov (.tmp 10), .some 52)), (none, (.bin .add (.tmp 51) (.tmp 52), .some 53)), (none, (.call (.func 124) [.const (.int .i64 9), .tmp 53], .some 54)), (none, (.store 7 (.tmp 2) (.tmp 50), none)), (none, (.mov (.const (.int .i64 0)), .some 3)), (none, (.store 2 (.tmp 4) (.tmp 54), none))] []) .ret) .skip))))) (.seq
  (.reg [(none, (.mov (.tmp 9), .some 56)), (none, (.call (.func 33) [.tmp 56], .some 57)), (none, (.mov (.tmp 57), .some 55)), (none, (.ext (.tmp 55) 0, .some 58)), (none, (.ext (.tmp 55) 1, .some 59)), (none, (.new [.int .u64 0, .int .i64 0, .int .i64 0, .int .u64 0, .int .u64 0, .int .i64 0, .int .i64 0], .some 11)), (none, (.store 7 (.tmp 11) (.tmp 58), none)), (none, (.store 2 (.tmp 6) (.tmp 59), none))] []) (.seq (.seq
  (.reg [(none, (.load (.some 2) (.tmp 6), .some 60)), (none, (.call (.func 102) [.tmp 60], .some 61)), (none, (.un .not (.tmp 61), .some 62))] []) (.cond (.tmp 62) (.seq
  (.reg [(none, (.build [.int .u64 0, .int .i64 0, .int .i64 0, .int .u64 0, .int .u64 0, .int .i64 0, .int .i64 0] [], .some 63)), (none, (.load (.some 2) (.tmp 6), .some 64)), (none, (.mov (.tmp 8), .some 65)), (none, (.mov (.tmp 10), .some 66)), (none, (.bin .add (.tmp 65) (.tmp 66), .some 67)), (none, (.bin .sub (.tmp 67) (.const (.int .i64 4)), .some 68)), (none, (.mov (.tmp 9), .some 69)), (none, (.len .false (.tmp 69), .some 70)), (none, (.bin .sub (.tmp 68) (.tmp 70), .some 71)), (none, (.call (.func 155) [.tmp 64, .tmp 71], .some 72)), (none, (.store 7 (.tmp 2) (.tmp 63), none)), (none, (.mov (.const (.int .i64 0)), .some 3)), (none, (.store 2 (.tmp 4) (.tmp 72), none))] []) .ret) .skip)) (.seq
  (.reg [(none, (.load (.some 7) (.tmp 11), .some 73)), (none, (.mov (.tmp 8), .some 74)), (none, (.build [.int .i64 0, .int .i64 0] [], .some 75)), (none, (.store 7 (.tmp 2) (.tmp 73), none)), (none, (.mov (.tmp 74), .some 3)), (none, (.store 2 (.tmp 4) (.tmp 75), none))] []) .ret)))))))))
theorem b85 : Try.f85.body.bind (compC Try.prog) = some c85 := by kernel_rfl
theorem r85 : compR Try.prog Try.f85 = .some [.cell 2 (.some 7), .tmp 3, .cell 4 (.some 2)] := by kernel_rfl
theorem n85 : (Try.f85.name == "runtime.NumGoroutine") = false := by kernel_rfl
def c90 : C := .seq
  (.reg [(none, (.box (.tmp 0), .some 1)), (none, (.mov (.const (.bool .false)), .some 2))] []) (.seq
  (.reg [(none, (.fadr 1 (.tmp 1), .some 5)), (none, (.load none (.tmp 5), .some 6)), (none, (.bin .geq (.tmp 6) (.const (.int .i64 0)), .some 7)), (none, (.mov (.tmp 7), .some 8)), (.some (8, .true), (.fadr 1 (.tmp 1), .some 9)), (.some (8, .true), (.load none (.tmp 9), .some 10)), (.some (8, .true), (.bin .leq (.tmp 10) (.const (.int .i64 16)), .some 11)), (none, (.pick (.tmp 8) (.tmp 11) (.const (.bool .false)), .some 12)), (none, (.mov (.tmp 12), .some 13)), (.some (13, .true), (.fadr 2 (.tmp 1), .some 14)), (.some (13, .true), (.load none (.tmp 14), .some 15)), (.some (13, .true), (.fadr 1 (.tmp 1), .some 16)), (.some (13, .true), (.load none (.tmp 16), .some 17)), (.some (13, .true), (.bin .geq (.tmp 15) (.tmp 17), .some 18)), (none, (.pick (.tmp 13) (.tmp 18) (.const (.bool .false)), .some 19)), (none, (.mov (.tmp 19), .some 20)), (.some (20, .true), (.fadr 2 (.tmp 1), .some 21)), (.some (20, .true), (.load none (.tmp 21), .some 22)), (.some (20, .true), (.fadr 1 (.tmp 1), .some 23)), (.some (20, .true), (.load none (.tmp 23), .some 24)), (.some (20, .true), (.bin .mul (.tmp 24) (.const (.int .i64 16)), .some 25)), (.some (20, .true), (.bin .leq (.tmp 22) (.tmp 25), .some 26)), (none, (.pick (.tmp 20) (.tmp 26) (.const (.bool .false)), .some 27)), (none, (.mov (.tmp 27), .some 3))] []) (.seq
  (.reg [(none, (.fadr 5 (.tmp 1), .some 28)), (none, (.load none (.tmp 28), .some 29)), (none, (.bin .geq (.tmp 29) (.const (.int .i64 1)), .some 30)), (none, (.mov (.tmp 30), .some 31)), (.some (31, .true), (.fadr 5 (.tmp 1), .some 32)), (.some (31, .true), (.load none (.tmp 32), .some 33)), (.some (31, .true), (.bin .leq (.tmp 33) (.const (.int .i64 1099511627775)), .some 34)), (none, (.pick (.tmp 31) (.tmp 34) (.const (.bool .false)), .some 35)), (none, (.mov (.tmp 35), .some 36)), (.some (36, .true), (.fadr 6 (.tmp 1), .some 37)), (.some (36, .true), (.load none (.tmp 37), .some 38)), (.some (36, .true), (.bin .geq (.tmp 38) (.const (.int .i64 1)), .some 39)), (none, (.pick (.tmp 36) (.tmp 39) (.const (.bool .false)), .some 40)), (none, (.mov (.tmp 40), .some 41)), (.some (41, .true), (.fadr 6 (.tmp 1), .some 42)), (.some (41, .true), (.load none (.tmp 42), .some 43)), (.some (41, .true), (.bin .leq (.tmp 43) (.const (.int .i64 2097152)), .some 44)), (none, (.pick (.tmp 41) (.tmp 44) (.const (.bool .false)), .some 45)), (none, (.mov (.tmp 45), .some 4))] []) (.seq
  (.reg [(none, (.fadr 0 (.tmp 1), .some 46)), (none, (.load none (.tmp 46), .some 47)), (none, (.call (.func 143) [.tmp 47], .some 48)), (none, (.mov (.tmp 48), .some 49)), (.some (49, .true), (.mov (.tmp 3), .some 50)), (none, (.pick (.tmp 49) (.tmp 50) (.const (.bool .false)), .some 51)), (none, (.mov (.tmp 51), .some 52)), (.some (52, .true), (.mov (.tmp 4), .some 53)), (none, (.pick (.tmp 52) (.tmp 53) (.const (.bool .false)), .some 54)), (none, (.mov (.tmp 54), .some 55)), (.some (55, .true), (.load (.some 7) (.tmp 1), .some 56)), (.some (55, .true), (.call (.func 161) [.tmp 56], .some 57)), (none, (.pick (.tmp 55) (.tmp 57) (.const (.bool .false)), .some 58)), (none, (.mov (.tmp 58), .some 2))] []) .ret)))
theorem b90 : Try.f90.body.bind (compC Try.prog) = some c90 := by kernel_rfl
theorem r90 : compR Try.prog Try.f90 = .some [.tmp 2] := by kernel_rfl
theorem n90 : (Try.f90.name == "runtime.NumGoroutine") = false := by kernel_rfl
def c99 : C := .seq
  (.reg [(none, (.mov (.const (.int .i64 0)), .some 4))] []) (.seq (.seq
  (.reg [(none, (.mov (.tmp 1), .some 6)), (none, (.bin .geq (.tmp 6) (.const (.int .i64 0)), .some 7))] []) (.cond (.tmp 7) (.seq
  (.reg [(none, (.mov (.tmp 0), .some 8)), (none, (.mov (.tmp 1), .some 9)), (none, (.cvt .u64 (.tmp 9), .some 10)), (none, (.call (.func 165) [.tmp 8, .tmp 10], .some 11)), (none, (.cvt .i64 (.tmp 11), .some 12)), (none, (.mov (.tmp 12), .some 4))] []) .ret) .skip)) (.seq
  (.reg [(none, (.mov (.tmp 0), .some 13)), (none, (.call (.func 49) [.tmp 13], .some 14)), (none, (.mov (.tmp 14), .some 5))] []) (.seq
  (.reg [(none, (.mov (.tmp 0), .some 15)), (none, (.call (.func 100) [.tmp 15], .some 16))] []) (.seq
  (.reg [(none, (.mov (.tmp 0), .some 17)), (none, (.mov (.tmp 5), .some 18)), (none, (.call (.func 97) [.tmp 17, .const (.int .i64 2), .tmp 18], .some 19))] []) (.seq
  (.reg [(none, (.mov (.const (.int .i64 0)), .some 4))] []) .ret)))))
theorem b99 : Try.f99.body.bind (compC Try.prog) = some c99 := by kernel_rfl
theorem r99 : compR Try.prog Try.f99 = .some [.tmp 4] := by kernel_rfl
theorem n99 : (Try.f99.name == "runtime.NumGoroutine") = false := by kernel_rfl
def c101 : C := .seq
  (.reg [(none, (.mov (.tmp 0), .some 2)), (none, (.call (.func 150) [.tmp 2], .some 3)), (none, (.bin .gtr (.tmp 3) (.const (.int .i64 0)), .some 4))] []) (.cond (.tmp 4)
  (.reg [(none, (.mov (.tmp 0), .some 5)), (none, (.mov (.tmp 0), .some 6)), (none, (.nilc (.tmp 6), .some 7)), (none, (.fadr 1 (.tmp 7), .some 8)), (none, (.load none (.tmp 8), .some 9)), (none, (.call (.func 97) [.tmp 5, .const (.int .i64 9), .tmp 9], .some 10))] []) .skip)
theorem b101 : Try.f101.body.bind (compC Try.prog) = some c101 := by kernel_rfl
theorem r101 : compR Try.prog Try.f101 = .some [] := by kernel_rfl
theorem n101 : (Try.f101.name == "runtime.NumGoroutine") = false := by kernel_rfl
def c127 : C := .reg [(none, (.mov (.tmp 0), .some 4)), (none, (.mov (.tmp 1), .some 5)), (none, (.call (.func 172) [.tmp 5], .some 6)), (none, (.call (.func 140) [.tmp 4, .tmp 6], .some 7))] []
theorem b127 : Try.f127.body.bind (compC Try.prog) = some c127 := by kernel_rfl
theorem r127 : compR Try.prog Try.f127 = .some [] := by kernel_rfl
theorem n127 : (Try.f127.name == "runtime.NumGoroutine") = false := by kernel_rfl
def c141 : C := .reg [(none, (.mov (.tmp 0), .some 6)), (none, (.mov (.tmp 1), .some 7)), (none, (.mov (.tmp 2), .some 8)), (none, (.call (.func 162) [.tmp 7, .tmp 8], .some 9)), (none, (.call (.func 140) [.tmp 6, .tmp 9], .some 10))] []
theorem b141 : Try.f141.body.bind (compC Try.prog) = some c141 := by kernel_rfl
theorem r141 : compR Try.prog Try.f141 = .some [] := by kernel_rfl
theorem n141 : (Try.f141.name == "runtime.NumGoroutine") = false := by kernel_rfl
def c155 : C := .seq
  (.reg [(none, (.box (.tmp 0), .some 2)), (none, (.new [.int .i64 0, .int .i64 0], .some 4))] []) (.seq
  (.reg [(none, (.fadr 0 (.tmp 2), .some 5)), (none, (.load none (.tmp 5), .some 6)), (none, (.fadr 1 (.tmp 2), .some 7)), (none, (.load none (.tmp 7), .some 8)), (none, (.mov (.tmp 1), .some 9)), (none, (.bin .add (.tmp 8) (.tmp 9), .some 10)), (none, (.call (.func 124) [.tmp 6, .tmp 10], .some 11)), (none, (.store 2 (.tmp 4) (.tmp 11), none))] []) .ret)
theorem b155 : Try.f155.body.bind (compC Try.prog) = some c155 := by kernel_rfl
theorem r155 : compR Try.prog Try.f155 = .some [.cell 4 (.some 2)] := by kernel_rfl
theorem n155 : (Try.f155.name == "runtime.NumGoroutine") = false := by kernel_rfl
def c172 : C := .seq
  (.reg [(none, (.mov (.const (.slice none 0 0)), .some 2))] []) (.seq
  (.reg [(none, (.mov (.const (.slice none 0 0)), .some 3))] []) (.seq (.block 0 (.loop (.seq (.seq
  (.reg [(none, (.mov (.tmp 0), .some 4)), (none, (.bin .geq (.tmp 4) (.const (.int .u64 128)), .some 5))] []) (.cond (.tmp 5) .skip (.exit 0))) (.block 1 (.seq
  (.reg [(none, (.mov (.tmp 3), .some 6)), (none, (.mov (.tmp 0), .some 7)), (none, (.cvt .u8 (.tmp 7), .some 8)), (none, (.bin .or (.tmp 8) (.const (.int .u8 128)), .some 9)), (none, (.bsl 1 [.tmp 9], .some 10)), (none, (.app 1 1 (.tmp 6) (.tmp 10), .some 11)), (none, (.mov (.tmp 11), .some 3))] [])
  (.reg [(none, (.mov (.tmp 0), .some 12)), (none, (.bin .shr (.tmp 12) (.const (.int .u64 7)), .some 13)), (none, (.mov (.tmp 13), .some 0))] [])))))) (.seq
  (.reg [(none, (.mov (.tmp 3), .some 14)), (none, (.mov (.tmp 0), .some 15)), (none, (.cvt .u8 (.tmp 15), .some 16)), (none, (.bsl 1 [.tmp 16], .some 17)), (none, (.app 1 1 (.tmp 14) (.tmp 17), .some 18)), (none, (.mov (.tmp 18), .some 2))] []) .ret)))
theorem b172 : Try.f172.body.bind (compC Try.prog) = some c172 := by kernel_rfl
theorem r172 : compR Try.prog Try.f172 = .some [.tmp 2] := by kernel_rfl
theorem n172 : (Try.f172.name == "runtime.NumGoroutine") = false := by kernel_rfl
def c180 : C := .seq
  (.reg [(none, (.mov (.const (.pointer none)), .some 4))] []) (.seq (.seq
  (.reg [(none, (.mov (.tmp 0), .some 6)), (none, (.eqp .false (.tmp 6) (.const (.pointer none)), .some 7))] []) (.cond (.tmp 7) (.seq
  (.reg [(none, (.mov (.const (.pointer none)), .some 4))] []) .ret) .skip)) (.seq
  (.reg [(none, (.mov (.tmp 0), .some 8)), (none, (.nilc (.tmp 8), .some 9)), (none, (.fadr 1 (.tmp 9), .some 10)), (none, (.load none (.tmp 10), .some 11)), (none, (.mov (.tmp 1), .some 12)), (none, (.mx .true (.tmp 12) (.const (.int .i64 0)), .some 13)), (none, (.mov (.tmp 0), .some 14)), (none, (.call (.func 150) [.tmp 14], .some 15)), (none, (.mx .false (.tmp 13) (.tmp 15), .some 16)), (none, (.bin .add (.tmp 11) (.tmp 16), .some 17)), (none, (.mov (.tmp 17), .some 5))] [(3, 7)]) (.seq
  (.reg [(none, (.mov (.tmp 0), .some 18)), (none, (.nilc (.tmp 18), .some 19)), (none, (.fadr 0 (.tmp 19), .some 20)), (none, (.load none (.tmp 20), .some 21)), (none, (.mov (.tmp 5), .some 22)), (none, (.mov (.tmp 5), .some 23)), (none, (.slice 1 (.tmp 21) none (.some (.tmp 22)) (.some (.tmp 23)), .some 24)), (none, (.mov (.tmp 0), .some 25)), (none, (.nilc (.tmp 25), .some 26)), (none, (.fadr 1 (.tmp 26), .some 27)), (none, (.load none (.tmp 27), .some 28)), (none, (.build [.slice none 0 0, .int .i64 0, .int .i64 0, .int .i64 0] [(0, (1, .tmp 24)), (1, (1, .tmp 28))], .some 29)), (none, (.box (.tmp 29), .some 30)), (none, (.mov (.tmp 30), .some 4))] [(3, 10)]) .ret)))
theorem b180 : Try.f180.body.bind (compC Try.prog) = some c180 := by kernel_rfl
theorem r180 : compR Try.prog Try.f180 = .some [.tmp 4] := by kernel_rfl
theorem n180 : (Try.f180.name == "runtime.NumGoroutine") = false := by kernel_rfl
def c181 : C := .seq
  (.reg [(none, (.mov (.const (.slice none 0 0)), .some 4))] []) (.seq
  (.reg [(none, (.mov (.tmp 0), .some 8)), (none, (.mov (.tmp 1), .some 9)), (none, (.call (.func 191) [.tmp 9], .some 10)), (none, (.call (.func 190) [.tmp 8, .tmp 10], .some 11)), (none, (.mov (.tmp 11), .some 5))] []) (.seq
  (.reg [(none, (.mov (.tmp 0), .some 12)), (none, (.call (.func 49) [.tmp 12], .some 13)), (none, (.mov (.tmp 13), .some 6))] []) (.seq
  (.reg [(none, (.mov (.tmp 0), .some 14)), (none, (.call (.func 152) [.tmp 14, .const (.int .i64 4)], .some 15)), (none, (.mov (.tmp 15), .some 7))] []) (.seq
  (.reg [(none, (.mov (.tmp 5), .some 16)), (none, (.mov (.tmp 7), .some 17)), (none, (.mov (.tmp 0), .some 18)), (none, (.mkf 97 [.tmp 18] [], .some 19)), (none, (.mov (.tmp 6), .some 20)), (none, (.call (.func 192) [.tmp 16, .tmp 17, .tmp 19, .tmp 20], .some 21))] []) (.seq (.seq
  (.reg [(none, (.mov (.tmp 0), .some 22)), (none, (.call (.func 57) [.tmp 22], .some 23)), (none, (.un .not (.tmp 23), .some 24))] []) (.cond (.tmp 24) (.seq
  (.reg [(none, (.mov (.const (.slice none 0 0)), .some 4))] []) .ret) .skip)) (.seq
  (.reg [(none, (.mov (.tmp 5), .some 25)), (none, (.mov (.tmp 25), .some 4))] []) .ret))))))
theorem b181 : Try.f181.body.bind (compC Try.prog) = some c181 := by kernel_rfl
theorem r181 : compR Try.prog Try.f181 = .some [.tmp 4] := by kernel_rfl
theorem n181 : (Try.f181.name == "runtime.NumGoroutine") = false := by kernel_rfl
def c183 : C := .seq
  (.reg [(none, (.mov (.const (.slice none 0 0)), .some 2))] []) (.seq
  (.reg [(none, (.mov (.tmp 0), .some 3)), (none, (.len .false (.tmp 3), .some 4)), (none, (.cvt .u64 (.tmp 4), .some 5)), (none, (.call (.func 110) [.tmp 5], .some 6)), (none, (.mov (.tmp 0), .some 7)), (none, (.app 1 1 (.tmp 6) (.tmp 7), .some 8)), (none, (.mov (.tmp 8), .some 2))] []) .ret)
theorem b183 : Try.f183.body.bind (compC Try.prog) = some c183 := by kernel_rfl
theorem r183 : compR Try.prog Try.f183 = .some [.tmp 2] := by kernel_rfl
theorem n183 : (Try.f183.name == "runtime.NumGoroutine") = false := by kernel_rfl
def c184 : C := .seq
  (.reg [(none, (.mov (.const (.int .i64 0)), .some 2))] []) (.seq
  (.reg [(none, (.mov (.tmp 0), .some 3)), (none, (.call (.func 193) [.tmp 3], .some 4)), (none, (.bin .add (.tmp 4) (.const (.int .i64 4)), .some 5)), (none, (.mov (.tmp 5), .some 2))] []) .ret)
theorem b184 : Try.f184.body.bind (compC Try.prog) = some c184 := by kernel_rfl
theorem r184 : compR Try.prog Try.f184 = .some [.tmp 2] := by kernel_rfl
theorem n184 : (Try.f184.name == "runtime.NumGoroutine") = false := by kernel_rfl
def c185 : C := .seq (.seq
  (.reg [(none, (.mov (.tmp 1), .some 4)), (none, (.len .false (.tmp 4), .some 5)), (none, (.bin .gtr (.tmp 5) (.const (.int .i64 2097152)), .some 6))] []) (.cond (.tmp 6) (.seq
  (.reg [(none, (.mov (.tmp 0), .some 7)), (none, (.call (.func 126) [.tmp 7, .const (.int .i64 2)], .some 8))] []) .ret) .skip)) (.seq
  (.reg [(none, (.mov (.tmp 0), .some 9)), (none, (.mov (.tmp 1), .some 10)), (none, (.call (.func 194) [.tmp 9, .tmp 10], .some 11))] [])
  (.reg [(none, (.mov (.tmp 0), .some 12)), (none, (.mov (.tmp 1), .some 13)), (none, (.call (.func 142) [.tmp 13], .some 14)), (none, (.cvt .u64 (.tmp 14), .some 15)), (none, (.call (.func 141) [.tmp 12, .tmp 15, .const (.int .i64 4)], .some 16))] []))
theorem b185 : Try.f185.body.bind (compC Try.prog) = some c185 := by kernel_rfl
theorem r185 : compR Try.prog Try.f185 = .some [] := by kernel_rfl
theorem n185 : (Try.f185.name == "runtime.NumGoroutine") = false := by kernel_rfl
def c186 : C := .seq (.seq
  (.reg [(none, (.mov (.tmp 2), .some 6)), (none, (.un .not (.tmp 6), .some 7))] []) (.cond (.tmp 7) (.seq
  (.reg [(none, (.mov (.tmp 0), .some 8)), (none, (.call (.func 126) [.tmp 8, .const (.int .i64 3)], .some 9))] []) .ret) .skip))
  (.reg [(none, (.mov (.tmp 0), .some 10)), (none, (.mov (.tmp 1), .some 11)), (none, (.call (.func 127) [.tmp 10, .tmp 11], .some 12))] [])
theorem b186 : Try.f186.body.bind (compC Try.prog) = some c186 := by kernel_rfl
theorem r186 : compR Try.prog Try.f186 = .some [] := by kernel_rfl
theorem n186 : (Try.f186.name == "runtime.NumGoroutine") = false := by kernel_rfl
def c189 : C := .seq
  (.reg [(none, (.mov (.const (.int .u32 0)), .some 4))] []) (.seq
  (.reg [(none, (.mov (.tmp 0), .some 7)), (none, (.mov (.tmp 1), .some 8)), (none, (.cvt .u32 (.tmp 8), .some 9)), (none, (.bin .xor (.tmp 7) (.tmp 9), .some 10)), (none, (.mov (.tmp 10), .some 0))] []) (.seq (.seq
  (.reg [(none, (.mov (.const (.int .i64 0)), .some 5))] []) (.block 0 (.loop (.seq (.seq
  (.reg [(none, (.mov (.tmp 5), .some 11)), (none, (.bin .lss (.tmp 11) (.const (.int .i64 8)), .some 12))] []) (.cond (.tmp 12) .skip (.exit 0))) (.seq (.block 1 (.seq
  (.reg [(none, (.mov (.tmp 0), .some 15)), (none, (.bin .rem (.tmp 15) (.const (.int .u32 2)), .some 16)), (none, (.mov (.tmp 16), .some 6))] []) (.seq
  (.reg [(none, (.mov (.tmp 0), .some 17)), (none, (.bin .quo (.tmp 17) (.const (.int .u32 2)), .some 18)), (none, (.mov (.tmp 18), .some 0))] []) (.seq
  (.reg [(none, (.mov (.tmp 6), .some 19)), (none, (.bin .eql (.tmp 19) (.const (.int .u32 1)), .some 20))] []) (.cond (.tmp 20)
  (.reg [(none, (.mov (.tmp 0), .some 21)), (none, (.bin .xor (.tmp 21) (.const (.int .u32 2197175160)), .some 22)), (none, (.mov (.tmp 22), .some 0))] []) .skip)))))
  (.reg [(none, (.mov (.tmp 5), .some 13)), (none, (.bin .add (.tmp 13) (.const (.int .i64 1)), .some 14)), (none, (.mov (.tmp 14), .some 5))] [])))))) (.seq
  (.reg [(none, (.mov (.tmp 0), .some 23)), (none, (.mov (.tmp 23), .some 4))] []) .ret)))
theorem b189 : Try.f189.body.bind (compC Try.prog) = some c189 := by kernel_rfl
theorem r189 : compR Try.prog Try.f189 = .some [.tmp 4] := by kernel_rfl
theorem n189 : (Try.f189.name == "runtime.NumGoroutine") = false := by kernel_rfl
def c196 : C := .seq
  (.reg [(none, (.mov (.const (.int .u32 0)), .some 2))] []) (.seq (.seq
  (.reg [(none, (.mov (.tmp 0), .some 3)), (none, (.bin .and (.tmp 3) (.const (.int .u32 1)), .some 4)), (none, (.bin .eql (.tmp 4) (.const (.int .u32 1)), .some 5))] []) (.cond (.tmp 5) (.seq
  (.reg [(none, (.mov (.tmp 0), .some 6)), (none, (.bin .shr (.tmp 6) (.const (.int .u64 1)), .some 7)), (none, (.bin .xor (.tmp 7) (.const (.int .u32 2197175160)), .some 8)), (none, (.mov (.tmp 8), .some 2))] []) .ret) .skip)) (.seq
  (.reg [(none, (.mov (.tmp 0), .some 9)), (none, (.bin .shr (.tmp 9) (.const (.int .u64 1)), .some 10)), (none, (.mov (.tmp 10), .some 2))] []) .ret))
theorem b196 : Try.f196.body.bind (compC Try.prog) = some c196 := by kernel_rfl
theorem r196 : compR Try.prog Try.f196 = .some [.tmp 2] := by kernel_rfl
theorem n196 : (Try.f196.name == "runtime.NumGoroutine") = false := by kernel_rfl
end Go.Proofs.Ytkhnfleejgfhgaa
