/-
  The codes of the seat's functions over abstract values, each shown to be its function's own (by program: wip/tools/codes.py).
-/
import Derived.Test.YtkhnfleejgfhgaaA2
import Derived.Test.YtkhnfleejgfhgaaProg
import Derived.KernelRfl
namespace Go.Proofs.Ytkhnfleejgfhgaa
def c23 : C := .seq
  (.reg [(none, (.mov (.const (.bool .false)), .some 4))] []) (.seq
  (.reg [(none, (.mov (.tmp 0), .some 5)), (none, (.b2s (.tmp 5), .some 6)), (none, (.mov (.tmp 1), .some 7)), (none, (.b2s (.tmp 7), .some 8)), (none, (.bin .eql (.tmp 6) (.tmp 8), .some 9)), (none, (.mov (.tmp 9), .some 4))] []) .ret)
theorem b23 : Try.f23.body.bind (compC Try.prog) = some c23 := by kernel_rfl
theorem r23 : compR Try.prog Try.f23 = .some [.tmp 4] := by kernel_rfl
theorem n23 : (Try.f23.name == "runtime.NumGoroutine") = false := by kernel_rfl
def c48 : C := .seq
  (.reg [(none, (.new [.int .i64 0, .int .i64 0], .some 2))] []) (.seq (.seq
  (.reg [(none, (.mov (.tmp 0), .some 3)), (none, (.eqp .false (.tmp 3) (.const (.pointer none)), .some 4))] []) (.cond (.tmp 4) (.seq
  (.reg [(none, (.call (.func 124) [.const (.int .i64 19), .const (.int .i64 0)], .some 5)), (none, (.store 2 (.tmp 2) (.tmp 5), none))] []) .ret) .skip)) (.seq
  (.reg [(none, (.mov (.tmp 0), .some 6)), (none, (.nilc (.tmp 6), .some 7)), (none, (.fadr 2 (.tmp 7), .some 8)), (none, (.load (.some 2) (.tmp 8), .some 9)), (none, (.store 2 (.tmp 2) (.tmp 9), none))] []) .ret))
theorem b48 : Try.f48.body.bind (compC Try.prog) = some c48 := by kernel_rfl
theorem r48 : compR Try.prog Try.f48 = .some [.cell 2 (.some 2)] := by kernel_rfl
theorem n48 : (Try.f48.name == "runtime.NumGoroutine") = false := by kernel_rfl
def c57 : C := .seq
  (.reg [(none, (.mov (.const (.bool .false)), .some 2))] []) (.seq
  (.reg [(none, (.mov (.tmp 0), .some 3)), (none, (.eqp .true (.tmp 3) (.const (.pointer none)), .some 4)), (none, (.mov (.tmp 4), .some 5)), (.some (5, .true), (.mov (.tmp 0), .some 6)), (.some (5, .true), (.nilc (.tmp 6), .some 7)), (.some (5, .true), (.fadr 2 (.tmp 7), .some 8)), (.some (5, .true), (.load (.some 2) (.tmp 8), .some 9)), (.some (5, .true), (.call (.func 102) [.tmp 9], .some 10)), (none, (.pick (.tmp 5) (.tmp 10) (.const (.bool .false)), .some 11)), (none, (.mov (.tmp 11), .some 2))] []) .ret)
theorem b57 : Try.f57.body.bind (compC Try.prog) = some c57 := by kernel_rfl
theorem r57 : compR Try.prog Try.f57 = .some [.tmp 2] := by kernel_rfl
theorem n57 : (Try.f57.name == "runtime.NumGoroutine") = false := by kernel_rfl
def c85 : C := .seq
  (.reg [(none, (.new [.int .u64 0, .int .i64 0, .int .i64 0, .int .u64 0, .int .u64 0, .int .i64 0, .int .i64 0], .some 2)), (none, (.mov (.const (.int .i64 0)), .some 3)), (none, (.new [.int .i64 0, .int .i64 0], .some 4))] []) (.seq
  (.reg [(none, (.mov (.tmp 0), .some 13)), (none, (.call (.func 153) [.tmp 13], .some 14)), (none, (.mov (.tmp 14), .some 12)), (none, (.ext (.tmp 12) 0, .some 15)), (none, (.ext (.tmp 12) 1, .some 16)), (none, (.new [.int .i64 0, .int .i64 0], .some 6)), (none, (.mov (.tmp 15), .some 5)), (none, (.store 2 (.tmp 6) (.tmp 16), none))] []) (.seq (.seq
  (.reg [(none, (.load (.some 2) (.tmp 6), .some 17)), (none, (.call (.func 102) [.tmp 17], .some 18)), (none, (.un .not (.tmp 18), .some 19))] []) (.cond (.tmp 19) (.seq
  (.reg [(none, (.build [.int .u64 0, .int .i64 0, .int .i64 0, .int .u64 0, .int .u64 0, .int .i64 0, .int .i64 0] [], .some 20)), (none, (.load (.some 2) (.tmp 6), .some 21)), (none, (.store 7 (.tmp 2) (.tmp 20), none)), (none, (.mov (.const (.int .i64 0)), .some 3)), (none, (.store 2 (.tmp 4) (.tmp 21), none))] [(1, 2)]) .ret) .skip)) (.seq
  (.reg [(none, (.mov (.tmp 0), .some 22)), (none, (.len .false (.tmp 22), .some 23)), (none, (.call (.func 95) [], .some 24)), (none, (.bin .sub (.tmp 23) (.tmp 24), .some 25)), (none, (.mov (.tmp 25), .some 7))] []) (.seq
  (.reg [(none, (.mov (.tmp 7), .some 26)), (none, (.mov (.tmp 5), .some 27)), (none, (.bin .sub (.tmp 26) (.tmp 27), .some 28)), (none, (.mov (.tmp 28), .some 8))] []) (.seq
  (.reg [(none, (.mov (.tmp 0), .some 30)), (none, (.mov (.tmp 8), .some 31)), (none, (.mov (.tmp 7), .some 32)), (none, (.slice 1 (.tmp 30) (.some (.tmp 31)) (.some (.tmp 32)) none, .some 33)), (none, (.call (.func 154) [.tmp 33, .const (.int .i64 2097152)], .some 34)), (none, (.mov (.tmp 34), .some 29)), (none, (.ext (.tmp 29) 0, .some 35)), (none, (.ext (.tmp 29) 1, .some 36)), (none, (.ext (.tmp 29) 2, .some 37)), (none, (.mov (.tmp 35), .some 9)), (none, (.mov (.tmp 36), .some 10)), (none, (.store 2 (.tmp 6) (.tmp 37), none))] []) (.seq (.block 0 (.seq
  (.reg [(none, (.load (.some 2) (.tmp 6), .some 39)), (none, (.call (.func 102) [.tmp 39], .some 40)), (none, (.un .not (.tmp 40), .some 41)), (none, (.mov (.tmp 41), .some 38))] []) (.cond (.tmp 38) (.seq
  (.reg [(none, (.build [.int .u64 0, .int .i64 0, .int .i64 0, .int .u64 0, .int .u64 0, .int .i64 0, .int .i64 0] [], .some 42)), (none, (.load (.some 2) (.tmp 6), .some 43)), (none, (.mov (.tmp 8), .some 44)), (none, (.call (.func 155) [.tmp 43, .tmp 44], .some 45)), (none, (.store 7 (.tmp 2) (.tmp 42), none)), (none, (.mov (.const (.int .i64 0)), .some 3)), (none, (.store 2 (.tmp 4) (.tmp 45), none))] []) .ret) (.seq
  (.reg [(none, (.mov (.tmp 10), .some 47)), (none, (.mov (.tmp 5), .some 48)), (none, (.bin .lss (.tmp 47) (.tmp 48), .some 49)), (none, (.mov (.tmp 49), .some 46))] []) (.cond (.tmp 46) (.seq
  (.reg [(none, (.build [.int .u64 0, .int .i64 0, .int .i64 0, .int .u64 0, .int .u64 0, .int .i64 0, .int .i64 0] [], .some 50)), (none, (.mov (.tmp 8), .some 51)), (none, (.mov (.tmp 10), .some 52)), (none, (.bin .add (.tmp 51) (.tmp 52), .some 53)), (none, (.call (.func 124) [.const (.int .i64 9), .tmp 53], .some 54)), (none, (.store 7 (.tmp 2) (.tmp 50), none)), (none, (.mov (.const (.int .i64 0)), .some 3)), (none, (.store 2 (.tmp 4) (.tmp 54), none))] []) .ret) .skip))))) (.seq
  (.reg [(none, (.mov (.tmp 9), .some 56)), (none, (.call (.func 33) [.tmp 56], .some 57)), (none, (.mov (.tmp 57), .some 55)), (none, (.ext (.tmp 55) 0, .some 58)), (none, (.ext (.tmp 55) 1, .some 59)), (none, (.new [.int .u64 0, .int .i64 0, .int .i64 0, .int .u64 0, .int .u64 0, .int .i64 0, .int .i64 0], .some 11)), (none, (.store 7 (.tmp 11) (.tmp 58), none)), (none, (.store 2 (.tmp 6) (.tmp 59), none))] []) (.seq (.seq
  (.reg [(none, (.load (.some 2) (.tmp 6), .some 60)), (none, (.call (.func 102) [.tmp 60], .some 61)), (none, (.un .not (.tmp 61), .some 62))] []) (.cond (.tmp 62) (.seq
  (.reg [(none, (.build [.int .u64 0, .int .i64 0, .int .i64 0, .int .u64 0, .int .u64 0, .int .i64 0, .int .i64 0] [], .some 63)), (none, (.load (.some 2) (.tmp 6), .some 64)), (none, (.mov (.tmp 8), .some 65)), (none, (.mov (.tmp 10), .some 66)), (none, (.bin .add (.tmp 65) (.tmp 66), .some 67)), (none, (.bin .sub (.tmp 67) (.const (.int .i64 4)), .some 68)), (none, (.mov (.tmp 9), .some 69)), (none, (.len .false (.tmp 69), .some 70)), (none, (.bin .sub (.tmp 68) (.tmp 70), .some 71)), (none, (.call (.func 155) [.tmp 64, .tmp 71], .some 72)), (none, (.store 7 (.tmp 2) (.tmp 63), none)), (none, (.mov (.const (.int .i64 0)), .some 3)), (none, (.store 2 (.tmp 4) (.tmp 72), none))] []) .ret) .skip)) (.seq
  (.reg [(none, (.load (.some 7) (.tmp 11), .some 73)), (none, (.mov (.tmp 8), .some 74)), (none, (.build [.int .i64 0, .int .i64 0] [], .some 75)), (none, (.store 7 (.tmp 2) (.tmp 73), none)), (none, (.mov (.tmp 74), .some 3)), (none, (.store 2 (.tmp 4) (.tmp 75), none))] []) .ret)))))))))
theorem b85 : Try.f85.body.bind (compC Try.prog) = some c85 := by kernel_rfl
theorem r85 : compR Try.prog Try.f85 = .some [.cell 2 (.some 7), .tmp 3, .cell 4 (.some 2)] := by kernel_rfl
theorem n85 : (Try.f85.name == "runtime.NumGoroutine") = false := by kernel_rfl
def c99 : C := .seq
  (.reg [(none, (.mov (.const (.int .i64 0)), .some 4))] []) (.seq (.seq
  (.reg [(none, (.mov (.tmp 1), .some 6)), (none, (.bin .geq (.tmp 6) (.const (.int .i64 0)), .some 7))] []) (.cond (.tmp 7) (.seq
  (.reg [(none, (.mov (.tmp 0), .some 8)), (none, (.mov (.tmp 1), .some 9)), (none, (.cvt .u64 (.tmp 9), .some 10)), (none, (.call (.func 165) [.tmp 8, .tmp 10], .some 11)), (none, (.cvt .i64 (.tmp 11), .some 12)), (none, (.mov (.tmp 12), .some 4))] []) .ret) .skip)) (.seq
  (.reg [(none, (.mov (.tmp 0), .some 13)), (none, (.call (.func 49) [.tmp 13], .some 14)), (none, (.mov (.tmp 14), .some 5))] []) (.seq
  (.reg [(none, (.mov (.tmp 0), .some 15)), (none, (.call (.func 100) [.tmp 15], .some 16))] []) (.seq
  (.reg [(none, (.mov (.tmp 0), .some 17)), (none, (.mov (.tmp 5), .some 18)), (none, (.call (.func 97) [.tmp 17, .const (.int .i64 2), .tmp 18], .some 19))] []) (.seq
  (.reg [(none, (.mov (.const (.int .i64 0)), .some 4))] []) .ret)))))
theorem b99 : Try.f99.body.bind (compC Try.prog) = some c99 := by kernel_rfl
theorem r99 : compR Try.prog Try.f99 = .some [.tmp 4] := by kernel_rfl
theorem n99 : (Try.f99.name == "runtime.NumGoroutine") = false := by kernel_rfl
def c102 : C := .seq
  (.reg [(none, (.box (.tmp 0), .some 1)), (none, (.mov (.const (.bool .false)), .some 2))] []) (.seq
  (.reg [(none, (.fadr 0 (.tmp 1), .some 3)), (none, (.load none (.tmp 3), .some 4)), (none, (.bin .eql (.tmp 4) (.const (.int .i64 0)), .some 5)), (none, (.mov (.tmp 5), .some 2))] []) .ret)
theorem b102 : Try.f102.body.bind (compC Try.prog) = some c102 := by kernel_rfl
theorem r102 : compR Try.prog Try.f102 = .some [.tmp 2] := by kernel_rfl
theorem n102 : (Try.f102.name == "runtime.NumGoroutine") = false := by kernel_rfl
def c105 : C := .seq
  (.reg [(none, (.box (.tmp 0), .some 2)), (none, (.new [.slice none 0 0, .int .i64 0, .int .i64 0, .int .i64 0], .some 4)), (none, (.mov (.const (.int .u64 0)), .some 5))] []) (.seq
  (.reg [(none, (.load (.some 4) (.tmp 2), .some 9)), (none, (.call (.func 107) [.tmp 9], .some 10)), (none, (.mov (.tmp 10), .some 8)), (none, (.ext (.tmp 8) 0, .some 11)), (none, (.ext (.tmp 8) 1, .some 12)), (none, (.new [.slice none 0 0, .int .i64 0, .int .i64 0, .int .i64 0], .some 6)), (none, (.store 4 (.tmp 6) (.tmp 11), none)), (none, (.mov (.tmp 12), .some 7))] []) (.seq (.seq
  (.reg [(none, (.fadr 2 (.tmp 6), .some 13)), (none, (.fadr 0 (.tmp 13), .some 14)), (none, (.load none (.tmp 14), .some 15)), (none, (.bin .neq (.tmp 15) (.const (.int .i64 0)), .some 16))] []) (.cond (.tmp 16) (.seq
  (.reg [(none, (.load (.some 4) (.tmp 6), .some 17)), (none, (.store 4 (.tmp 4) (.tmp 17), none)), (none, (.mov (.const (.int .u64 0)), .some 5))] []) .ret) .skip)) (.seq (.seq
  (.reg [(none, (.mov (.tmp 1), .some 18)), (none, (.bin .eql (.tmp 18) (.const (.int .i64 1)), .some 19)), (none, (.mov (.tmp 19), .some 20)), (.some (20, .true), (.mov (.tmp 7), .some 21)), (.some (20, .true), (.call (.func 109) [.tmp 21], .some 22)), (.some (20, .true), (.un .not (.tmp 22), .some 23)), (none, (.pick (.tmp 20) (.tmp 23) (.const (.bool .false)), .some 24)), (none, (.mov (.tmp 24), .some 25)), (.some (25, .false), (.mov (.tmp 1), .some 26)), (.some (25, .false), (.bin .eql (.tmp 26) (.const (.int .i64 2)), .some 27)), (.some (25, .false), (.mov (.tmp 27), .some 28)), (.some (28, .true), (.mov (.tmp 7), .some 29)), (.some (28, .true), (.call (.func 133) [.tmp 29], .some 30)), (.some (28, .true), (.un .not (.tmp 30), .some 31)), (.some (25, .false), (.pick (.tmp 28) (.tmp 31) (.const (.bool .false)), .some 32)), (none, (.pick (.tmp 25) (.const (.bool .true)) (.tmp 32), .some 33)), (none, (.mov (.tmp 33), .some 34)), (.some (34, .false), (.mov (.tmp 1), .some 35)), (.some (34, .false), (.bin .eql (.tmp 35) (.const (.int .i64 3)), .some 36)), (.some (34, .false), (.mov (.tmp 36), .some 37)), (.some (37, .true), (.mov (.tmp 7), .some 38)), (.some (37, .true), (.bin .gtr (.tmp 38) (.const (.int .u64 4611686018427387904)), .some 39)), (.some (34, .false), (.pick (.tmp 37) (.tmp 39) (.const (.bool .false)), .some 40)), (none, (.pick (.tmp 34) (.const (.bool .true)) (.tmp 40), .some 41))] []) (.cond (.tmp 41) (.seq
  (.reg [(none, (.load (.some 4) (.tmp 6), .some 42)), (none, (.fadr 1 (.tmp 2), .some 43)), (none, (.load none (.tmp 43), .some 44)), (none, (.call (.func 104) [.tmp 42, .const (.int .i64 3), .tmp 44], .some 45)), (none, (.store 4 (.tmp 4) (.tmp 45), none)), (none, (.mov (.const (.int .u64 0)), .some 5))] []) .ret) .skip)) (.seq
  (.reg [(none, (.load (.some 4) (.tmp 6), .some 46)), (none, (.mov (.tmp 7), .some 47)), (none, (.store 4 (.tmp 4) (.tmp 46), none)), (none, (.mov (.tmp 47), .some 5))] []) .ret))))
theorem b105 : Try.f105.body.bind (compC Try.prog) = some c105 := by kernel_rfl
theorem r105 : compR Try.prog Try.f105 = .some [.cell 4 (.some 4), .tmp 5] := by kernel_rfl
theorem n105 : (Try.f105.name == "runtime.NumGoroutine") = false := by kernel_rfl
def c107 : C := .seq
  (.reg [(none, (.box (.tmp 0), .some 1)), (none, (.new [.slice none 0 0, .int .i64 0, .int .i64 0, .int .i64 0], .some 2)), (none, (.mov (.const (.int .u64 0)), .some 3))] []) (.seq (.seq
  (.reg [(none, (.fadr 2 (.tmp 1), .some 7)), (none, (.fadr 0 (.tmp 7), .some 8)), (none, (.load none (.tmp 8), .some 9)), (none, (.bin .neq (.tmp 9) (.const (.int .i64 0)), .some 10))] []) (.cond (.tmp 10) (.seq
  (.reg [(none, (.load (.some 4) (.tmp 1), .some 11)), (none, (.store 4 (.tmp 2) (.tmp 11), none)), (none, (.mov (.const (.int .u64 0)), .some 3))] []) .ret) .skip)) (.seq
  (.reg [(none, (.fadr 0 (.tmp 1), .some 13)), (none, (.load none (.tmp 13), .some 14)), (none, (.fadr 1 (.tmp 1), .some 15)), (none, (.load none (.tmp 15), .some 16)), (none, (.slice 1 (.tmp 14) (.some (.tmp 16)) none none, .some 17)), (none, (.call (.func 167) [.tmp 17], .some 18)), (none, (.mov (.tmp 18), .some 12)), (none, (.ext (.tmp 12) 0, .some 19)), (none, (.ext (.tmp 12) 1, .some 20)), (none, (.ext (.tmp 12) 2, .some 21)), (none, (.new [.int .i64 0, .int .i64 0], .some 6)), (none, (.mov (.tmp 19), .some 4)), (none, (.mov (.tmp 20), .some 5)), (none, (.store 2 (.tmp 6) (.tmp 21), none))] []) (.seq (.seq
  (.reg [(none, (.fadr 0 (.tmp 6), .some 22)), (none, (.load none (.tmp 22), .some 23)), (none, (.bin .eql (.tmp 23) (.const (.int .i64 0)), .some 24))] []) (.cond (.tmp 24) (.seq
  (.reg [(none, (.fadr 1 (.tmp 1), .some 25)), (none, (.load none (.tmp 25), .some 26)), (none, (.mov (.tmp 5), .some 27)), (none, (.bin .add (.tmp 26) (.tmp 27), .some 28)), (none, (.fadr 1 (.tmp 1), .some 29)), (none, (.store 1 (.tmp 29) (.tmp 28), none))] []) (.seq
  (.reg [(none, (.load (.some 4) (.tmp 1), .some 30)), (none, (.mov (.tmp 4), .some 31)), (none, (.store 4 (.tmp 2) (.tmp 30), none)), (none, (.mov (.tmp 31), .some 3))] []) .ret)) .skip)) (.seq (.seq
  (.reg [(none, (.fadr 0 (.tmp 6), .some 32)), (none, (.load none (.tmp 32), .some 33)), (none, (.bin .eql (.tmp 33) (.const (.int .i64 1)), .some 34))] []) (.cond (.tmp 34)
  (.reg [(none, (.fadr 0 (.tmp 1), .some 35)), (none, (.load none (.tmp 35), .some 36)), (none, (.len .false (.tmp 36), .some 37)), (none, (.fadr 1 (.tmp 1), .some 38)), (none, (.store 1 (.tmp 38) (.tmp 37), none))] [])
  (.reg [(none, (.fadr 1 (.tmp 1), .some 39)), (none, (.load none (.tmp 39), .some 40)), (none, (.fadr 1 (.tmp 6), .some 41)), (none, (.load none (.tmp 41), .some 42)), (none, (.bin .add (.tmp 40) (.tmp 42), .some 43)), (none, (.bin .add (.tmp 43) (.const (.int .i64 1)), .some 44)), (none, (.fadr 1 (.tmp 1), .some 45)), (none, (.store 1 (.tmp 45) (.tmp 44), none))] []))) (.seq
  (.reg [(none, (.fadr 0 (.tmp 6), .some 46)), (none, (.load none (.tmp 46), .some 47)), (none, (.fadr 1 (.tmp 1), .some 48)), (none, (.load none (.tmp 48), .some 49)), (none, (.call (.func 156) [.tmp 47, .tmp 49], .some 50)), (none, (.fadr 2 (.tmp 1), .some 51)), (none, (.store 2 (.tmp 51) (.tmp 50), none))] []) (.seq (.seq
  (.reg [(none, (.fadr 0 (.tmp 6), .some 52)), (none, (.load none (.tmp 52), .some 53)), (none, (.bin .neq (.tmp 53) (.const (.int .i64 1)), .some 54))] []) (.cond (.tmp 54)
  (.reg [(none, (.fadr 1 (.tmp 1), .some 55)), (none, (.load none (.tmp 55), .some 56)), (none, (.bin .sub (.tmp 56) (.const (.int .i64 1)), .some 57)), (none, (.fadr 2 (.tmp 1), .some 58)), (none, (.fadr 1 (.tmp 58), .some 59)), (none, (.store 1 (.tmp 59) (.tmp 57), none))] []) .skip)) (.seq
  (.reg [(none, (.load (.some 4) (.tmp 1), .some 60)), (none, (.store 4 (.tmp 2) (.tmp 60), none)), (none, (.mov (.const (.int .u64 0)), .some 3))] []) .ret)))))))
theorem b107 : Try.f107.body.bind (compC Try.prog) = some c107 := by kernel_rfl
theorem r107 : compR Try.prog Try.f107 = .some [.cell 2 (.some 4), .tmp 3] := by kernel_rfl
theorem n107 : (Try.f107.name == "runtime.NumGoroutine") = false := by kernel_rfl
def c110 : C := .seq
  (.reg [(none, (.mov (.const (.slice none 0 0)), .some 2))] []) (.seq (.seq
  (.reg [(none, (.mov (.tmp 0), .some 3)), (none, (.bin .lss (.tmp 3) (.const (.int .u64 128)), .some 4))] []) (.cond (.tmp 4) (.seq
  (.reg [(none, (.mov (.tmp 0), .some 5)), (none, (.cvt .u8 (.tmp 5), .some 6)), (none, (.bsl 1 [.tmp 6], .some 7)), (none, (.mov (.tmp 7), .some 2))] []) .ret) .skip)) (.seq
  (.reg [(none, (.mov (.tmp 0), .some 8)), (none, (.bin .rem (.tmp 8) (.const (.int .u64 128)), .some 9)), (none, (.bin .add (.const (.int .u64 128)) (.tmp 9), .some 10)), (none, (.cvt .u8 (.tmp 10), .some 11)), (none, (.bsl 1 [.tmp 11], .some 12)), (none, (.mov (.tmp 0), .some 13)), (none, (.bin .quo (.tmp 13) (.const (.int .u64 128)), .some 14)), (none, (.call (.func 110) [.tmp 14], .some 15)), (none, (.app 1 1 (.tmp 12) (.tmp 15), .some 16)), (none, (.mov (.tmp 16), .some 2))] []) .ret))
theorem b110 : Try.f110.body.bind (compC Try.prog) = some c110 := by kernel_rfl
theorem r110 : compR Try.prog Try.f110 = .some [.tmp 2] := by kernel_rfl
theorem n110 : (Try.f110.name == "runtime.NumGoroutine") = false := by kernel_rfl
def c126 : C := .seq
  (.reg [(none, (.mov (.tmp 0), .some 4)), (none, (.call (.func 130) [.tmp 4], .some 5)), (none, (.bin .eql (.tmp 5) (.const (.int .i64 0)), .some 6))] []) (.cond (.tmp 6)
  (.reg [(none, (.mov (.tmp 0), .some 7)), (none, (.mov (.tmp 1), .some 8)), (none, (.nilc (.tmp 7), .some 9)), (none, (.fadr 2 (.tmp 9), .some 10)), (none, (.store 1 (.tmp 10) (.tmp 8), none))] []) .skip)
theorem b126 : Try.f126.body.bind (compC Try.prog) = some c126 := by kernel_rfl
theorem r126 : compR Try.prog Try.f126 = .some [] := by kernel_rfl
theorem n126 : (Try.f126.name == "runtime.NumGoroutine") = false := by kernel_rfl
def c130 : C := .seq
  (.reg [(none, (.mov (.const (.int .i64 0)), .some 2))] []) (.seq (.seq
  (.reg [(none, (.mov (.tmp 0), .some 3)), (none, (.eqp .false (.tmp 3) (.const (.pointer none)), .some 4))] []) (.cond (.tmp 4) (.seq
  (.reg [(none, (.mov (.const (.int .i64 19)), .some 2))] []) .ret) .skip)) (.seq
  (.reg [(none, (.mov (.tmp 0), .some 5)), (none, (.nilc (.tmp 5), .some 6)), (none, (.fadr 2 (.tmp 6), .some 7)), (none, (.load none (.tmp 7), .some 8)), (none, (.mov (.tmp 8), .some 2))] []) .ret))
theorem b130 : Try.f130.body.bind (compC Try.prog) = some c130 := by kernel_rfl
theorem r130 : compR Try.prog Try.f130 = .some [.tmp 2] := by kernel_rfl
theorem n130 : (Try.f130.name == "runtime.NumGoroutine") = false := by kernel_rfl
def c143 : C := .seq
  (.reg [(none, (.mov (.const (.bool .false)), .some 2))] []) (.seq
  (.reg [(none, (.mov (.tmp 0), .some 3)), (none, (.bin .geq (.tmp 3) (.const (.int .u64 1)), .some 4)), (none, (.mov (.tmp 4), .some 5)), (.some (5, .true), (.mov (.tmp 0), .some 6)), (.some (5, .true), (.bin .lss (.tmp 6) (.const (.int .u64 4611686018427387904)), .some 7)), (none, (.pick (.tmp 5) (.tmp 7) (.const (.bool .false)), .some 8)), (none, (.mov (.tmp 8), .some 2))] []) .ret)
theorem b143 : Try.f143.body.bind (compC Try.prog) = some c143 := by kernel_rfl
theorem r143 : compR Try.prog Try.f143 = .some [.tmp 2] := by kernel_rfl
theorem n143 : (Try.f143.name == "runtime.NumGoroutine") = false := by kernel_rfl
def c152 : C := .seq
  (.reg [(none, (.mov (.const (.int .u64 0)), .some 4))] []) (.seq
  (.reg [(none, (.mov (.const (.int .u64 0)), .some 5))] []) (.seq (.seq
  (.reg [(none, (.mov (.tmp 0), .some 8)), (none, (.mov (.tmp 1), .some 9)), (none, (.mx .true (.tmp 9) (.const (.int .i64 0)), .some 10)), (none, (.mx .false (.tmp 10) (.const (.int .i64 8)), .some 11)), (none, (.call (.func 178) [.tmp 8, .tmp 11], .some 12)), (none, (.len .false (.tmp 12), .some 13)), (none, (.mov (.const (.int .i64 0)), .some 14))] []) (.block 0 (.loop (.seq
  (.reg [(none, (.bin .lss (.tmp 14) (.tmp 13), .some 15))] []) (.seq (.cond (.tmp 15) .skip (.exit 0)) (.seq (.block 1 (.seq
  (.reg [(none, (.mov (.tmp 14), .some 16)), (none, (.iadr 1 (.tmp 12) (.tmp 14), .some 17)), (none, (.load none (.tmp 17), .some 18)), (none, (.mov (.tmp 16), .some 6)), (none, (.mov (.tmp 18), .some 7))] [])
  (.reg [(none, (.mov (.tmp 5), .some 19)), (none, (.mov (.tmp 7), .some 20)), (none, (.cvt .u64 (.tmp 20), .some 21)), (none, (.mov (.tmp 6), .some 22)), (none, (.bin .mul (.const (.int .i64 8)) (.tmp 22), .some 23)), (none, (.bin .shl (.tmp 21) (.tmp 23), .some 24)), (none, (.bin .or (.tmp 19) (.tmp 24), .some 25)), (none, (.mov (.tmp 25), .some 5))] [])))
  (.reg [(none, (.bin .add (.tmp 14) (.const (.int .i64 1)), .some 26)), (none, (.mov (.tmp 26), .some 14))] []))))))) (.seq
  (.reg [(none, (.mov (.tmp 5), .some 27)), (none, (.mov (.tmp 27), .some 4))] []) .ret)))
theorem b152 : Try.f152.body.bind (compC Try.prog) = some c152 := by kernel_rfl
theorem r152 : compR Try.prog Try.f152 = .some [.tmp 4] := by kernel_rfl
theorem n152 : (Try.f152.name == "runtime.NumGoroutine") = false := by kernel_rfl
def c165 : C := .seq
  (.reg [(none, (.mov (.const (.int .u64 0)), .some 4))] []) (.seq
  (.reg [(none, (.mov (.tmp 0), .some 7)), (none, (.call (.func 49) [.tmp 7], .some 8)), (none, (.mov (.tmp 8), .some 5))] []) (.seq
  (.reg [(none, (.mov (.tmp 0), .some 9)), (none, (.call (.func 100) [.tmp 9], .some 10)), (none, (.mov (.tmp 10), .some 6))] []) (.seq (.seq
  (.reg [(none, (.mov (.tmp 6), .some 11)), (none, (.mov (.tmp 1), .some 12)), (none, (.bin .gtr (.tmp 11) (.tmp 12), .some 13))] []) (.cond (.tmp 13) (.seq
  (.reg [(none, (.mov (.tmp 0), .some 14)), (none, (.mov (.tmp 5), .some 15)), (none, (.call (.func 97) [.tmp 14, .const (.int .i64 2), .tmp 15], .some 16))] []) (.seq
  (.reg [(none, (.mov (.const (.int .u64 0)), .some 4))] []) .ret)) .skip)) (.seq
  (.reg [(none, (.mov (.tmp 6), .some 17)), (none, (.mov (.tmp 17), .some 4))] []) .ret))))
theorem b165 : Try.f165.body.bind (compC Try.prog) = some c165 := by kernel_rfl
theorem r165 : compR Try.prog Try.f165 = .some [.tmp 4] := by kernel_rfl
theorem n165 : (Try.f165.name == "runtime.NumGoroutine") = false := by kernel_rfl
def c166 : C := .seq
  (.reg [(none, (.box (.tmp 0), .some 2)), (none, (.new [.slice none 0 0, .int .i64 0, .int .i64 0, .int .i64 0], .some 4)), (none, (.mov (.const (.int .u64 0)), .some 5))] []) (.seq
  (.reg [(none, (.fadr 1 (.tmp 2), .some 9)), (none, (.load none (.tmp 9), .some 10)), (none, (.mov (.tmp 10), .some 6))] []) (.seq
  (.reg [(none, (.load (.some 4) (.tmp 2), .some 12)), (none, (.call (.func 107) [.tmp 12], .some 13)), (none, (.mov (.tmp 13), .some 11)), (none, (.ext (.tmp 11) 0, .some 14)), (none, (.ext (.tmp 11) 1, .some 15)), (none, (.new [.slice none 0 0, .int .i64 0, .int .i64 0, .int .i64 0], .some 7)), (none, (.store 4 (.tmp 7) (.tmp 14), none)), (none, (.mov (.tmp 15), .some 8))] []) (.seq (.seq
  (.reg [(none, (.mov (.tmp 8), .some 16)), (none, (.mov (.tmp 1), .some 17)), (none, (.bin .gtr (.tmp 16) (.tmp 17), .some 18))] []) (.cond (.tmp 18) (.seq
  (.reg [(none, (.load (.some 4) (.tmp 7), .some 19)), (none, (.mov (.tmp 6), .some 20)), (none, (.call (.func 104) [.tmp 19, .const (.int .i64 2), .tmp 20], .some 21)), (none, (.store 4 (.tmp 4) (.tmp 21), none)), (none, (.mov (.const (.int .u64 0)), .some 5))] []) .ret) .skip)) (.seq
  (.reg [(none, (.load (.some 4) (.tmp 7), .some 22)), (none, (.mov (.tmp 8), .some 23)), (none, (.store 4 (.tmp 4) (.tmp 22), none)), (none, (.mov (.tmp 23), .some 5))] []) .ret))))
theorem b166 : Try.f166.body.bind (compC Try.prog) = some c166 := by kernel_rfl
theorem r166 : compR Try.prog Try.f166 = .some [.cell 4 (.some 4), .tmp 5] := by kernel_rfl
theorem n166 : (Try.f166.name == "runtime.NumGoroutine") = false := by kernel_rfl
def c167 : C := .seq
  (.reg [(none, (.mov (.const (.int .u64 0)), .some 2)), (none, (.mov (.const (.int .i64 0)), .some 3)), (none, (.new [.int .i64 0, .int .i64 0], .some 4))] []) (.seq (.seq
  (.reg [(none, (.mov (.const (.int .i64 0)), .some 5))] []) (.block 0 (.loop (.seq (.seq
  (.reg [(none, (.mov (.tmp 5), .some 8)), (none, (.mov (.tmp 0), .some 9)), (none, (.len .false (.tmp 9), .some 10)), (none, (.bin .lss (.tmp 8) (.tmp 10), .some 11))] []) (.cond (.tmp 11) .skip (.exit 0))) (.seq (.block 1 (.seq (.seq
  (.reg [(none, (.mov (.tmp 5), .some 14)), (none, (.bin .eql (.tmp 14) (.const (.int .i64 9)), .some 15)), (none, (.mov (.tmp 15), .some 16)), (.some (16, .true), (.mov (.tmp 0), .some 17)), (.some (16, .true), (.mov (.tmp 5), .some 18)), (.some (16, .true), (.iadr 1 (.tmp 17) (.tmp 18), .some 19)), (.some (16, .true), (.load none (.tmp 19), .some 20)), (.some (16, .true), (.bin .gtr (.tmp 20) (.const (.int .u8 1)), .some 21)), (none, (.pick (.tmp 16) (.tmp 21) (.const (.bool .false)), .some 22))] []) (.cond (.tmp 22) (.seq
  (.reg [(none, (.mov (.tmp 5), .some 23)), (none, (.call (.func 156) [.const (.int .i64 5), .tmp 23], .some 24)), (none, (.mov (.const (.int .u64 0)), .some 2)), (none, (.mov (.const (.int .i64 0)), .some 3)), (none, (.store 2 (.tmp 4) (.tmp 24), none))] []) .ret) .skip)) (.seq (.seq
  (.reg [(none, (.mov (.tmp 5), .some 25)), (none, (.bin .gtr (.tmp 25) (.const (.int .i64 0)), .some 26)), (none, (.mov (.tmp 26), .some 27)), (.some (27, .true), (.mov (.tmp 0), .some 28)), (.some (27, .true), (.mov (.tmp 5), .some 29)), (.some (27, .true), (.iadr 1 (.tmp 28) (.tmp 29), .some 30)), (.some (27, .true), (.load none (.tmp 30), .some 31)), (.some (27, .true), (.bin .eql (.tmp 31) (.const (.int .u8 0)), .some 32)), (none, (.pick (.tmp 27) (.tmp 32) (.const (.bool .false)), .some 33))] []) (.cond (.tmp 33) (.seq
  (.reg [(none, (.mov (.tmp 5), .some 34)), (none, (.call (.func 156) [.const (.int .i64 4), .tmp 34], .some 35)), (none, (.mov (.const (.int .u64 0)), .some 2)), (none, (.mov (.const (.int .i64 0)), .some 3)), (none, (.store 2 (.tmp 4) (.tmp 35), none))] []) .ret) .skip)) (.seq
  (.reg [(none, (.mov (.tmp 0), .some 36)), (none, (.mov (.tmp 5), .some 37)), (none, (.iadr 1 (.tmp 36) (.tmp 37), .some 38)), (none, (.load none (.tmp 38), .some 39)), (none, (.bin .lss (.tmp 39) (.const (.int .u8 128)), .some 40))] []) (.cond (.tmp 40) (.seq
  (.reg [(none, (.mov (.const (.int .u64 0)), .some 6))] []) (.seq (.seq
  (.reg [(none, (.mov (.tmp 5), .some 41)), (none, (.mov (.tmp 41), .some 7))] []) (.block 2 (.loop (.seq (.seq
  (.reg [(none, (.mov (.tmp 7), .some 42)), (none, (.bin .geq (.tmp 42) (.const (.int .i64 0)), .some 43))] []) (.cond (.tmp 43) .skip (.exit 2))) (.seq (.block 3
  (.reg [(none, (.mov (.tmp 6), .some 46)), (none, (.bin .mul (.const (.int .u64 128)) (.tmp 46), .some 47)), (none, (.mov (.tmp 0), .some 48)), (none, (.mov (.tmp 7), .some 49)), (none, (.iadr 1 (.tmp 48) (.tmp 49), .some 50)), (none, (.load none (.tmp 50), .some 51)), (none, (.bin .rem (.tmp 51) (.const (.int .u8 128)), .some 52)), (none, (.cvt .u64 (.tmp 52), .some 53)), (none, (.bin .add (.tmp 47) (.tmp 53), .some 54)), (none, (.mov (.tmp 54), .some 6))] []))
  (.reg [(none, (.mov (.tmp 7), .some 44)), (none, (.bin .sub (.tmp 44) (.const (.int .i64 1)), .some 45)), (none, (.mov (.tmp 45), .some 7))] [])))))) (.seq
  (.reg [(none, (.mov (.tmp 6), .some 55)), (none, (.mov (.tmp 5), .some 56)), (none, (.bin .add (.tmp 56) (.const (.int .i64 1)), .some 57)), (none, (.build [.int .i64 0, .int .i64 0] [], .some 58)), (none, (.mov (.tmp 55), .some 2)), (none, (.mov (.tmp 57), .some 3)), (none, (.store 2 (.tmp 4) (.tmp 58), none))] []) .ret))) .skip)))))
  (.reg [(none, (.mov (.tmp 5), .some 12)), (none, (.bin .add (.tmp 12) (.const (.int .i64 1)), .some 13)), (none, (.mov (.tmp 13), .some 5))] [])))))) (.seq
  (.reg [(none, (.mov (.tmp 0), .some 59)), (none, (.len .false (.tmp 59), .some 60)), (none, (.call (.func 156) [.const (.int .i64 1), .tmp 60], .some 61)), (none, (.mov (.const (.int .u64 0)), .some 2)), (none, (.mov (.const (.int .i64 0)), .some 3)), (none, (.store 2 (.tmp 4) (.tmp 61), none))] []) .ret))
theorem b167 : Try.f167.body.bind (compC Try.prog) = some c167 := by kernel_rfl
theorem r167 : compR Try.prog Try.f167 = .some [.tmp 2, .tmp 3, .cell 4 (.some 2)] := by kernel_rfl
theorem n167 : (Try.f167.name == "runtime.NumGoroutine") = false := by kernel_rfl
def c176 : C := .seq
  (.reg [(none, (.mov (.const (.int .u32 0)), .some 4))] []) (.seq
  (.reg [(none, (.call (.func 188) [], .some 8)), (none, (.new [.int .u32 0, .int .u32 0, .int .u32 0, .int .u32 0, .int .u32 0, .int .u32 0, .int .u32 0, .int .u32 0, .int .u32 0, .int .u32 0, .int .u32 0, .int .u32 0, .int .u32 0, .int .u32 0, .int .u32 0, .int .u32 0], .some 5)), (none, (.store 16 (.tmp 5) (.tmp 8), none))] []) (.seq (.seq
  (.reg [(none, (.mov (.tmp 1), .some 9)), (none, (.len .false (.tmp 9), .some 10)), (none, (.mov (.const (.int .i64 0)), .some 11))] []) (.block 0 (.loop (.seq
  (.reg [(none, (.bin .lss (.tmp 11) (.tmp 10), .some 12))] []) (.seq (.cond (.tmp 12) .skip (.exit 0)) (.seq (.block 1 (.seq
  (.reg [(none, (.iadr 1 (.tmp 9) (.tmp 11), .some 13)), (none, (.load none (.tmp 13), .some 14)), (none, (.mov (.tmp 14), .some 7))] []) (.seq
  (.reg [(none, (.mov (.tmp 0), .some 15)), (none, (.mov (.tmp 7), .some 16)), (none, (.cvt .u32 (.tmp 16), .some 17)), (none, (.bin .xor (.tmp 15) (.tmp 17), .some 18)), (none, (.mov (.tmp 18), .some 0))] []) (.seq
  (.reg [(none, (.mov (.tmp 0), .some 19)), (none, (.bin .shr (.tmp 19) (.const (.int .u64 4)), .some 20)), (none, (.mov (.tmp 0), .some 21)), (none, (.bin .and (.tmp 21) (.const (.int .u32 15)), .some 22)), (none, (.aadr 16 1 (.tmp 5) (.tmp 22), .some 23)), (none, (.load none (.tmp 23), .some 24)), (none, (.bin .xor (.tmp 20) (.tmp 24), .some 25)), (none, (.mov (.tmp 25), .some 0))] [])
  (.reg [(none, (.mov (.tmp 0), .some 26)), (none, (.bin .shr (.tmp 26) (.const (.int .u64 4)), .some 27)), (none, (.mov (.tmp 0), .some 28)), (none, (.bin .and (.tmp 28) (.const (.int .u32 15)), .some 29)), (none, (.aadr 16 1 (.tmp 5) (.tmp 29), .some 30)), (none, (.load none (.tmp 30), .some 31)), (none, (.bin .xor (.tmp 27) (.tmp 31), .some 32)), (none, (.mov (.tmp 32), .some 0))] [])))))
  (.reg [(none, (.bin .add (.tmp 11) (.const (.int .i64 1)), .some 33)), (none, (.mov (.tmp 33), .some 11))] []))))))) (.seq
  (.reg [(none, (.mov (.tmp 0), .some 34)), (none, (.mov (.tmp 34), .some 4))] []) .ret)))
theorem b176 : Try.f176.body.bind (compC Try.prog) = some c176 := by kernel_rfl
theorem r176 : compR Try.prog Try.f176 = .some [.tmp 4] := by kernel_rfl
theorem n176 : (Try.f176.name == "runtime.NumGoroutine") = false := by kernel_rfl
def c177 : C := .seq
  (.reg [(none, (.mov (.const (.int .u32 0)), .some 0))] []) (.seq
  (.reg [(none, (.mov (.const (.int .u32 4294967295)), .some 0))] []) .ret)
theorem b177 : Try.f177.body.bind (compC Try.prog) = some c177 := by kernel_rfl
theorem r177 : compR Try.prog Try.f177 = .some [.tmp 0] := by kernel_rfl
theorem n177 : (Try.f177.name == "runtime.NumGoroutine") = false := by kernel_rfl
def c178 : C := .seq
  (.reg [(none, (.mov (.const (.slice none 0 0)), .some 4))] []) (.seq (.seq
  (.reg [(none, (.mov (.tmp 0), .some 5)), (none, (.mov (.tmp 1), .some 6)), (none, (.call (.func 78) [.tmp 5, .tmp 6], .some 7)), (none, (.un .not (.tmp 7), .some 8))] []) (.cond (.tmp 8) (.seq
  (.reg [(none, (.mov (.const (.slice none 0 0)), .some 4))] []) .ret) .skip)) (.seq
  (.reg [(none, (.bsl 1 [], .some 9)), (none, (.mov (.tmp 0), .some 10)), (none, (.nilc (.tmp 10), .some 11)), (none, (.fadr 0 (.tmp 11), .some 12)), (none, (.load none (.tmp 12), .some 13)), (none, (.mov (.tmp 0), .some 14)), (none, (.nilc (.tmp 14), .some 15)), (none, (.fadr 1 (.tmp 15), .some 16)), (none, (.load none (.tmp 16), .some 17)), (none, (.mov (.tmp 1), .some 18)), (none, (.bin .sub (.tmp 17) (.tmp 18), .some 19)), (none, (.mov (.tmp 0), .some 20)), (none, (.nilc (.tmp 20), .some 21)), (none, (.fadr 1 (.tmp 21), .some 22)), (none, (.load none (.tmp 22), .some 23)), (none, (.slice 1 (.tmp 13) (.some (.tmp 19)) (.some (.tmp 23)) none, .some 24)), (none, (.app 1 1 (.tmp 9) (.tmp 24), .some 25)), (none, (.mov (.tmp 25), .some 4))] [(4, 8), (4, 14), (8, 14)]) .ret))
theorem b178 : Try.f178.body.bind (compC Try.prog) = some c178 := by kernel_rfl
theorem r178 : compR Try.prog Try.f178 = .some [.tmp 4] := by kernel_rfl
theorem n178 : (Try.f178.name == "runtime.NumGoroutine") = false := by kernel_rfl
def c188 : C := .seq
  (.reg [(none, (.new [.int .u32 0, .int .u32 0, .int .u32 0, .int .u32 0, .int .u32 0, .int .u32 0, .int .u32 0, .int .u32 0, .int .u32 0, .int .u32 0, .int .u32 0, .int .u32 0, .int .u32 0, .int .u32 0, .int .u32 0, .int .u32 0], .some 0))] []) (.seq
  (.reg [(none, (.new [.int .u32 0, .int .u32 0, .int .u32 0, .int .u32 0, .int .u32 0, .int .u32 0, .int .u32 0, .int .u32 0, .int .u32 0, .int .u32 0, .int .u32 0, .int .u32 0, .int .u32 0, .int .u32 0, .int .u32 0, .int .u32 0], .some 1))] []) (.seq (.seq
  (.reg [(none, (.mov (.const (.int .i64 0)), .some 4))] []) (.block 0 (.loop (.seq
  (.reg [(none, (.bin .lss (.tmp 4) (.const (.int .i64 16)), .some 5))] []) (.seq (.cond (.tmp 5) .skip (.exit 0)) (.seq (.block 1 (.seq
  (.reg [(none, (.mov (.tmp 4), .some 6)), (none, (.mov (.tmp 6), .some 2))] []) (.seq
  (.reg [(none, (.mov (.tmp 2), .some 7)), (none, (.cvt .u32 (.tmp 7), .some 8)), (none, (.mov (.tmp 8), .some 3))] []) (.seq (.seq
  (.reg [(none, (.mov (.const (.int .i64 0)), .some 9))] []) (.block 2 (.loop (.seq
  (.reg [(none, (.bin .lss (.tmp 9) (.const (.int .i64 4)), .some 10))] []) (.seq (.cond (.tmp 10) .skip (.exit 2)) (.seq (.block 3
  (.reg [(none, (.mov (.tmp 3), .some 11)), (none, (.call (.func 196) [.tmp 11], .some 12)), (none, (.mov (.tmp 12), .some 3))] []))
  (.reg [(none, (.bin .add (.tmp 9) (.const (.int .i64 1)), .some 13)), (none, (.mov (.tmp 13), .some 9))] [])))))))
  (.reg [(none, (.mov (.tmp 2), .some 14)), (none, (.mov (.tmp 3), .some 15)), (none, (.aadr 16 1 (.tmp 1) (.tmp 14), .some 16)), (none, (.store 1 (.tmp 16) (.tmp 15), none))] [])))))
  (.reg [(none, (.bin .add (.tmp 4) (.const (.int .i64 1)), .some 17)), (none, (.mov (.tmp 17), .some 4))] []))))))) (.seq
  (.reg [(none, (.load (.some 16) (.tmp 1), .some 18)), (none, (.store 16 (.tmp 0) (.tmp 18), none))] []) .ret)))
theorem b188 : Try.f188.body.bind (compC Try.prog) = some c188 := by kernel_rfl
theorem r188 : compR Try.prog Try.f188 = .some [.cell 0 (.some 16)] := by kernel_rfl
theorem n188 : (Try.f188.name == "runtime.NumGoroutine") = false := by kernel_rfl
end Go.Proofs.Ytkhnfleejgfhgaa
