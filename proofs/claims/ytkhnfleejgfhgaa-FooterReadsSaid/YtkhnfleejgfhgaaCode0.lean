/-
  The codes of the seat's functions over abstract values, each shown to be its function's own (by program: wip/tools/codes.py).
-/
import Derived.Test.YtkhnfleejgfhgaaA2
import Derived.Test.YtkhnfleejgfhgaaProg
import Derived.KernelRfl
namespace Go.Proofs.Ytkhnfleejgfhgaa
def c34 : C := .seq
  (.reg [(none, (.new [.int .u64 0, .int .i64 0, .int .i64 0, .int .u64 0, .int .u64 0, .int .i64 0, .int .i64 0], .some 2)), (none, (.new [.int .i64 0, .int .i64 0], .some 3))] []) (.seq
  (.reg [(none, (.mov (.tmp 0), .some 8)), (none, (.build [.slice none 0 0, .int .i64 0, .int .i64 0, .int .i64 0] [(0, (1, .tmp 8))], .some 9)), (none, (.call (.func 103) [.tmp 9, .const (.int .i64 1)], .some 10)), (none, (.mov (.tmp 10), .some 7)), (none, (.ext (.tmp 7) 0, .some 11)), (none, (.ext (.tmp 7) 1, .some 12)), (none, (.new [.slice none 0 0, .int .i64 0, .int .i64 0, .int .i64 0], .some 4)), (none, (.store 4 (.tmp 4) (.tmp 11), none)), (none, (.mov (.tmp 12), .some 5))] []) (.seq (.seq
  (.reg [(none, (.fadr 2 (.tmp 4), .some 13)), (none, (.fadr 0 (.tmp 13), .some 14)), (none, (.load none (.tmp 14), .some 15)), (none, (.bin .eql (.tmp 15) (.const (.int .i64 0)), .some 16)), (none, (.mov (.tmp 16), .some 17)), (.some (17, .true), (.mov (.tmp 5), .some 18)), (.some (17, .true), (.iadr 1 (.tmp 18) (.const (.int .i64 0)), .some 19)), (.some (17, .true), (.load none (.tmp 19), .some 20)), (.some (17, .true), (.bin .neq (.tmp 20) (.const (.int .u8 3)), .some 21)), (none, (.pick (.tmp 17) (.tmp 21) (.const (.bool .false)), .some 22))] []) (.cond (.tmp 22)
  (.reg [(none, (.load (.some 4) (.tmp 4), .some 23)), (none, (.call (.func 104) [.tmp 23, .const (.int .i64 7), .const (.int .i64 0)], .some 24)), (none, (.store 4 (.tmp 4) (.tmp 24), none))] []) .skip)) (.seq
  (.reg [(none, (.build [.int .u64 0, .int .i64 0, .int .i64 0, .int .u64 0, .int .u64 0, .int .i64 0, .int .i64 0] [], .some 25)), (none, (.new [.int .u64 0, .int .i64 0, .int .i64 0, .int .u64 0, .int .u64 0, .int .i64 0, .int .i64 0], .some 6)), (none, (.store 7 (.tmp 6) (.tmp 25), none))] []) (.seq
  (.reg [(none, (.load (.some 4) (.tmp 4), .some 27)), (none, (.call (.func 105) [.tmp 27, .const (.int .i64 1)], .some 28)), (none, (.mov (.tmp 28), .some 26)), (none, (.ext (.tmp 26) 0, .some 29)), (none, (.ext (.tmp 26) 1, .some 30)), (none, (.store 4 (.tmp 4) (.tmp 29), none)), (none, (.fadr 0 (.tmp 6), .some 31)), (none, (.store 1 (.tmp 31) (.tmp 30), none))] []) (.seq
  (.reg [(none, (.load (.some 4) (.tmp 4), .some 33)), (none, (.call (.func 106) [.tmp 33, .const (.int .i64 65536)], .some 34)), (none, (.mov (.tmp 34), .some 32)), (none, (.ext (.tmp 32) 0, .some 35)), (none, (.ext (.tmp 32) 1, .some 36)), (none, (.store 4 (.tmp 4) (.tmp 35), none)), (none, (.fadr 1 (.tmp 6), .some 37)), (none, (.store 1 (.tmp 37) (.tmp 36), none))] []) (.seq
  (.reg [(none, (.load (.some 4) (.tmp 4), .some 39)), (none, (.call (.func 106) [.tmp 39, .const (.int .i64 65536)], .some 40)), (none, (.mov (.tmp 40), .some 38)), (none, (.ext (.tmp 38) 0, .some 41)), (none, (.ext (.tmp 38) 1, .some 42)), (none, (.store 4 (.tmp 4) (.tmp 41), none)), (none, (.fadr 2 (.tmp 6), .some 43)), (none, (.store 1 (.tmp 43) (.tmp 42), none))] []) (.seq
  (.reg [(none, (.load (.some 4) (.tmp 4), .some 45)), (none, (.call (.func 107) [.tmp 45], .some 46)), (none, (.mov (.tmp 46), .some 44)), (none, (.ext (.tmp 44) 0, .some 47)), (none, (.ext (.tmp 44) 1, .some 48)), (none, (.store 4 (.tmp 4) (.tmp 47), none)), (none, (.fadr 3 (.tmp 6), .some 49)), (none, (.store 1 (.tmp 49) (.tmp 48), none))] []) (.seq
  (.reg [(none, (.load (.some 4) (.tmp 4), .some 51)), (none, (.call (.func 107) [.tmp 51], .some 52)), (none, (.mov (.tmp 52), .some 50)), (none, (.ext (.tmp 50) 0, .some 53)), (none, (.ext (.tmp 50) 1, .some 54)), (none, (.store 4 (.tmp 4) (.tmp 53), none)), (none, (.fadr 4 (.tmp 6), .some 55)), (none, (.store 1 (.tmp 55) (.tmp 54), none))] []) (.seq
  (.reg [(none, (.load (.some 4) (.tmp 4), .some 57)), (none, (.call (.func 106) [.tmp 57, .const (.int .i64 1099511627776)], .some 58)), (none, (.mov (.tmp 58), .some 56)), (none, (.ext (.tmp 56) 0, .some 59)), (none, (.ext (.tmp 56) 1, .some 60)), (none, (.store 4 (.tmp 4) (.tmp 59), none)), (none, (.fadr 5 (.tmp 6), .some 61)), (none, (.store 1 (.tmp 61) (.tmp 60), none))] []) (.seq
  (.reg [(none, (.load (.some 4) (.tmp 4), .some 63)), (none, (.call (.func 106) [.tmp 63, .const (.int .i64 1099511627776)], .some 64)), (none, (.mov (.tmp 64), .some 62)), (none, (.ext (.tmp 62) 0, .some 65)), (none, (.ext (.tmp 62) 1, .some 66)), (none, (.store 4 (.tmp 4) (.tmp 65), none)), (none, (.fadr 6 (.tmp 6), .some 67)), (none, (.store 1 (.tmp 67) (.tmp 66), none))] []) (.seq (.seq
  (.reg [(none, (.fadr 2 (.tmp 4), .some 68)), (none, (.fadr 0 (.tmp 68), .some 69)), (none, (.load none (.tmp 69), .some 70)), (none, (.bin .eql (.tmp 70) (.const (.int .i64 0)), .some 71)), (none, (.mov (.tmp 71), .some 72)), (.some (72, .true), (.load (.some 7) (.tmp 6), .some 73)), (.some (72, .true), (.call (.func 36) [.tmp 73], .some 74)), (.some (72, .true), (.un .not (.tmp 74), .some 75)), (none, (.pick (.tmp 72) (.tmp 75) (.const (.bool .false)), .some 76))] []) (.cond (.tmp 76)
  (.reg [(none, (.load (.some 4) (.tmp 4), .some 77)), (none, (.call (.func 104) [.tmp 77, .const (.int .i64 3), .const (.int .i64 0)], .some 78)), (none, (.store 4 (.tmp 4) (.tmp 78), none))] []) .skip)) (.seq
  (.reg [(none, (.load (.some 4) (.tmp 4), .some 79)), (none, (.call (.func 108) [.tmp 79], .some 80)), (none, (.store 4 (.tmp 4) (.tmp 80), none))] []) (.seq (.seq
  (.reg [(none, (.fadr 2 (.tmp 4), .some 81)), (none, (.fadr 0 (.tmp 81), .some 82)), (none, (.load none (.tmp 82), .some 83)), (none, (.bin .neq (.tmp 83) (.const (.int .i64 0)), .some 84))] []) (.cond (.tmp 84) (.seq
  (.reg [(none, (.build [.int .u64 0, .int .i64 0, .int .i64 0, .int .u64 0, .int .u64 0, .int .i64 0, .int .i64 0] [], .some 85)), (none, (.fadr 2 (.tmp 4), .some 86)), (none, (.load (.some 2) (.tmp 86), .some 87)), (none, (.store 7 (.tmp 2) (.tmp 85), none)), (none, (.store 2 (.tmp 3) (.tmp 87), none))] [(2, 3)]) .ret) .skip)) (.seq
  (.reg [(none, (.load (.some 7) (.tmp 6), .some 88)), (none, (.build [.int .i64 0, .int .i64 0] [], .some 89)), (none, (.store 7 (.tmp 2) (.tmp 88), none)), (none, (.store 2 (.tmp 3) (.tmp 89), none))] []) .ret))))))))))))))
theorem b34 : Try.f34.body.bind (compC Try.prog) = some c34 := by kernel_rfl
theorem r34 : compR Try.prog Try.f34 = .some [.cell 2 (.some 7), .cell 3 (.some 2)] := by kernel_rfl
theorem n34 : (Try.f34.name == "runtime.NumGoroutine") = false := by kernel_rfl
def c49 : C := .seq
  (.reg [(none, (.mov (.const (.int .i64 0)), .some 2))] []) (.seq (.seq
  (.reg [(none, (.mov (.tmp 0), .some 3)), (none, (.eqp .false (.tmp 3) (.const (.pointer none)), .some 4))] []) (.cond (.tmp 4) (.seq
  (.reg [(none, (.mov (.const (.int .i64 0)), .some 2))] []) .ret) .skip)) (.seq
  (.reg [(none, (.mov (.tmp 0), .some 5)), (none, (.nilc (.tmp 5), .some 6)), (none, (.fadr 1 (.tmp 6), .some 7)), (none, (.load none (.tmp 7), .some 8)), (none, (.mov (.tmp 8), .some 2))] []) .ret))
theorem b49 : Try.f49.body.bind (compC Try.prog) = some c49 := by kernel_rfl
theorem r49 : compR Try.prog Try.f49 = .some [.tmp 2] := by kernel_rfl
theorem n49 : (Try.f49.name == "runtime.NumGoroutine") = false := by kernel_rfl
def c57 : C := .seq
  (.reg [(none, (.mov (.const (.bool .false)), .some 2))] []) (.seq
  (.reg [(none, (.mov (.tmp 0), .some 3)), (none, (.eqp .true (.tmp 3) (.const (.pointer none)), .some 4)), (none, (.mov (.tmp 4), .some 5)), (.some (5, .true), (.mov (.tmp 0), .some 6)), (.some (5, .true), (.nilc (.tmp 6), .some 7)), (.some (5, .true), (.fadr 2 (.tmp 7), .some 8)), (.some (5, .true), (.load (.some 2) (.tmp 8), .some 9)), (.some (5, .true), (.call (.func 102) [.tmp 9], .some 10)), (none, (.pick (.tmp 5) (.tmp 10) (.const (.bool .false)), .some 11)), (none, (.mov (.tmp 11), .some 2))] []) .ret)
theorem b57 : Try.f57.body.bind (compC Try.prog) = some c57 := by kernel_rfl
theorem r57 : compR Try.prog Try.f57 = .some [.tmp 2] := by kernel_rfl
theorem n57 : (Try.f57.name == "runtime.NumGoroutine") = false := by kernel_rfl
def c95 : C := .seq
  (.reg [(none, (.mov (.const (.int .i64 0)), .some 0))] []) (.seq
  (.reg [(none, (.mov (.const (.int .i64 12)), .some 0))] []) .ret)
theorem b95 : Try.f95.body.bind (compC Try.prog) = some c95 := by kernel_rfl
theorem r95 : compR Try.prog Try.f95 = .some [.tmp 0] := by kernel_rfl
theorem n95 : (Try.f95.name == "runtime.NumGoroutine") = false := by kernel_rfl
def c97 : C := .seq
  (.reg [(none, (.mov (.tmp 0), .some 6)), (none, (.call (.func 57) [.tmp 6], .some 7))] []) (.cond (.tmp 7)
  (.reg [(none, (.mov (.tmp 0), .some 8)), (none, (.mov (.tmp 1), .some 9)), (none, (.mov (.tmp 2), .some 10)), (none, (.call (.func 124) [.tmp 9, .tmp 10], .some 11)), (none, (.nilc (.tmp 8), .some 12)), (none, (.fadr 2 (.tmp 12), .some 13)), (none, (.store 2 (.tmp 13) (.tmp 11), none))] []) .skip)
theorem b97 : Try.f97.body.bind (compC Try.prog) = some c97 := by kernel_rfl
theorem r97 : compR Try.prog Try.f97 = .some [] := by kernel_rfl
theorem n97 : (Try.f97.name == "runtime.NumGoroutine") = false := by kernel_rfl
def c98 : C := .seq
  (.reg [(none, (.mov (.const (.int .u64 0)), .some 2))] []) (.seq
  (.reg [(none, (.mov (.tmp 0), .some 3)), (none, (.call (.func 164) [.tmp 3, .func 143], .some 4)), (none, (.mov (.tmp 4), .some 2))] []) .ret)
theorem b98 : Try.f98.body.bind (compC Try.prog) = some c98 := by kernel_rfl
theorem r98 : compR Try.prog Try.f98 = .some [.tmp 2] := by kernel_rfl
theorem n98 : (Try.f98.name == "runtime.NumGoroutine") = false := by kernel_rfl
def c99 : C := .seq
  (.reg [(none, (.mov (.const (.int .i64 0)), .some 4))] []) (.seq (.seq
  (.reg [(none, (.mov (.tmp 1), .some 6)), (none, (.bin .geq (.tmp 6) (.const (.int .i64 0)), .some 7))] []) (.cond (.tmp 7) (.seq
  (.reg [(none, (.mov (.tmp 0), .some 8)), (none, (.mov (.tmp 1), .some 9)), (none, (.cvt .u64 (.tmp 9), .some 10)), (none, (.call (.func 165) [.tmp 8, .tmp 10], .some 11)), (none, (.cvt .i64 (.tmp 11), .some 12)), (none, (.mov (.tmp 12), .some 4))] []) .ret) .skip)) (.seq
  (.reg [(none, (.mov (.tmp 0), .some 13)), (none, (.call (.func 49) [.tmp 13], .some 14)), (none, (.mov (.tmp 14), .some 5))] []) (.seq
  (.reg [(none, (.mov (.tmp 0), .some 15)), (none, (.call (.func 100) [.tmp 15], .some 16))] []) (.seq
  (.reg [(none, (.mov (.tmp 0), .some 17)), (none, (.mov (.tmp 5), .some 18)), (none, (.call (.func 97) [.tmp 17, .const (.int .i64 2), .tmp 18], .some 19))] []) (.seq
  (.reg [(none, (.mov (.const (.int .i64 0)), .some 4))] []) .ret)))))
theorem b99 : Try.f99.body.bind (compC Try.prog) = some c99 := by kernel_rfl
theorem r99 : compR Try.prog Try.f99 = .some [.tmp 4] := by kernel_rfl
theorem n99 : (Try.f99.name == "runtime.NumGoroutine") = false := by kernel_rfl
def c105 : C := .seq
  (.reg [(none, (.box (.tmp 0), .some 2)), (none, (.new [.slice none 0 0, .int .i64 0, .int .i64 0, .int .i64 0], .some 4)), (none, (.mov (.const (.int .u64 0)), .some 5))] []) (.seq
  (.reg [(none, (.load (.some 4) (.tmp 2), .some 9)), (none, (.call (.func 107) [.tmp 9], .some 10)), (none, (.mov (.tmp 10), .some 8)), (none, (.ext (.tmp 8) 0, .some 11)), (none, (.ext (.tmp 8) 1, .some 12)), (none, (.new [.slice none 0 0, .int .i64 0, .int .i64 0, .int .i64 0], .some 6)), (none, (.store 4 (.tmp 6) (.tmp 11), none)), (none, (.mov (.tmp 12), .some 7))] []) (.seq (.seq
  (.reg [(none, (.fadr 2 (.tmp 6), .some 13)), (none, (.fadr 0 (.tmp 13), .some 14)), (none, (.load none (.tmp 14), .some 15)), (none, (.bin .neq (.tmp 15) (.const (.int .i64 0)), .some 16))] []) (.cond (.tmp 16) (.seq
  (.reg [(none, (.load (.some 4) (.tmp 6), .some 17)), (none, (.store 4 (.tmp 4) (.tmp 17), none)), (none, (.mov (.const (.int .u64 0)), .some 5))] []) .ret) .skip)) (.seq (.seq
  (.reg [(none, (.mov (.tmp 1), .some 18)), (none, (.bin .eql (.tmp 18) (.const (.int .i64 1)), .some 19)), (none, (.mov (.tmp 19), .some 20)), (.some (20, .true), (.mov (.tmp 7), .some 21)), (.some (20, .true), (.call (.func 109) [.tmp 21], .some 22)), (.some (20, .true), (.un .not (.tmp 22), .some 23)), (none, (.pick (.tmp 20) (.tmp 23) (.const (.bool .false)), .some 24)), (none, (.mov (.tmp 24), .some 25)), (.some (25, .false), (.mov (.tmp 1), .some 26)), (.some (25, .false), (.bin .eql (.tmp 26) (.const (.int .i64 2)), .some 27)), (.some (25, .false), (.mov (.tmp 27), .some 28)), (.some (28, .true), (.mov (.tmp 7), .some 29)), (.some (28, .true), (.call (.func 133) [.tmp 29], .some 30)), (.some (28, .true), (.un .not (.tmp 30), .some 31)), (.some (25, .false), (.pick (.tmp 28) (.tmp 31) (.const (.bool .false)), .some 32)), (none, (.pick (.tmp 25) (.const (.bool .true)) (.tmp 32), .some 33)), (none, (.mov (.tmp 33), .some 34)), (.some (34, .false), (.mov (.tmp 1), .some 35)), (.some (34, .false), (.bin .eql (.tmp 35) (.const (.int .i64 3)), .some 36)), (.some (34, .false), (.mov (.tmp 36), .some 37)), (.some (37, .true), (.mov (.tmp 7), .some 38)), (.some (37, .true), (.bin .gtr (.tmp 38) (.const (.int .u64 4611686018427387904)), .some 39)), (.some (34, .false), (.pick (.tmp 37) (.tmp 39) (.const (.bool .false)), .some 40)), (none, (.pick (.tmp 34) (.const (.bool .true)) (.tmp 40), .some 41))] []) (.cond (.tmp 41) (.seq
  (.reg [(none, (.load (.some 4) (.tmp 6), .some 42)), (none, (.fadr 1 (.tmp 2), .some 43)), (none, (.load none (.tmp 43), .some 44)), (none, (.call (.func 104) [.tmp 42, .const (.int .i64 3), .tmp 44], .some 45)), (none, (.store 4 (.tmp 4) (.tmp 45), none)), (none, (.mov (.const (.int .u64 0)), .some 5))] []) .ret) .skip)) (.seq
  (.reg [(none, (.load (.some 4) (.tmp 6), .some 46)), (none, (.mov (.tmp 7), .some 47)), (none, (.store 4 (.tmp 4) (.tmp 46), none)), (none, (.mov (.tmp 47), .some 5))] []) .ret))))
theorem b105 : Try.f105.body.bind (compC Try.prog) = some c105 := by kernel_rfl
theorem r105 : compR Try.prog Try.f105 = .some [.cell 4 (.some 4), .tmp 5] := by kernel_rfl
theorem n105 : (Try.f105.name == "runtime.NumGoroutine") = false := by kernel_rfl
def c106 : C := .seq
  (.reg [(none, (.box (.tmp 0), .some 2)), (none, (.new [.slice none 0 0, .int .i64 0, .int .i64 0, .int .i64 0], .some 4)), (none, (.mov (.const (.int .i64 0)), .some 5))] []) (.seq (.seq
  (.reg [(none, (.mov (.tmp 1), .some 10)), (none, (.bin .geq (.tmp 10) (.const (.int .i64 0)), .some 11))] []) (.cond (.tmp 11) (.seq
  (.reg [(none, (.load (.some 4) (.tmp 2), .some 13)), (none, (.mov (.tmp 1), .some 14)), (none, (.cvt .u64 (.tmp 14), .some 15)), (none, (.call (.func 166) [.tmp 13, .tmp 15], .some 16)), (none, (.mov (.tmp 16), .some 12)), (none, (.ext (.tmp 12) 0, .some 17)), (none, (.ext (.tmp 12) 1, .some 18)), (none, (.new [.slice none 0 0, .int .i64 0, .int .i64 0, .int .i64 0], .some 6)), (none, (.store 4 (.tmp 6) (.tmp 17), none)), (none, (.mov (.tmp 18), .some 7))] []) (.seq
  (.reg [(none, (.load (.some 4) (.tmp 6), .some 19)), (none, (.mov (.tmp 7), .some 20)), (none, (.cvt .i64 (.tmp 20), .some 21)), (none, (.store 4 (.tmp 4) (.tmp 19), none)), (none, (.mov (.tmp 21), .some 5))] []) .ret)) .skip)) (.seq
  (.reg [(none, (.load (.some 4) (.tmp 2), .some 23)), (none, (.call (.func 107) [.tmp 23], .some 24)), (none, (.mov (.tmp 24), .some 22)), (none, (.ext (.tmp 22) 0, .some 25)), (none, (.ext (.tmp 22) 1, .some 26)), (none, (.new [.slice none 0 0, .int .i64 0, .int .i64 0, .int .i64 0], .some 8)), (none, (.store 4 (.tmp 8) (.tmp 25), none)), (none, (.mov (.tmp 26), .some 9))] []) (.seq
  (.reg [(none, (.load (.some 4) (.tmp 8), .some 27)), (none, (.fadr 1 (.tmp 2), .some 28)), (none, (.load none (.tmp 28), .some 29)), (none, (.call (.func 104) [.tmp 27, .const (.int .i64 2), .tmp 29], .some 30)), (none, (.store 4 (.tmp 4) (.tmp 30), none)), (none, (.mov (.const (.int .i64 0)), .some 5))] []) .ret)))
theorem b106 : Try.f106.body.bind (compC Try.prog) = some c106 := by kernel_rfl
theorem r106 : compR Try.prog Try.f106 = .some [.cell 4 (.some 4), .tmp 5] := by kernel_rfl
theorem n106 : (Try.f106.name == "runtime.NumGoroutine") = false := by kernel_rfl
def c142 : C := .seq
  (.reg [(none, (.mov (.const (.int .u32 0)), .some 2))] []) (.seq
  (.reg [(none, (.call (.func 177) [], .some 3)), (none, (.mov (.tmp 0), .some 4)), (none, (.call (.func 176) [.tmp 3, .tmp 4], .some 5)), (none, (.call (.func 175) [.tmp 5], .some 6)), (none, (.mov (.tmp 6), .some 2))] []) .ret)
theorem b142 : Try.f142.body.bind (compC Try.prog) = some c142 := by kernel_rfl
theorem r142 : compR Try.prog Try.f142 = .some [.tmp 2] := by kernel_rfl
theorem n142 : (Try.f142.name == "runtime.NumGoroutine") = false := by kernel_rfl
def c162 : C := .seq
  (.reg [(none, (.mov (.const (.slice none 0 0)), .some 4))] []) (.seq
  (.reg [(none, (.mov (.const (.slice none 0 0)), .some 5))] []) (.seq (.seq
  (.reg [(none, (.mov (.tmp 1), .some 6)), (none, (.mx .true (.tmp 6) (.const (.int .i64 0)), .some 7)), (none, (.mx .false (.tmp 7) (.const (.int .i64 8)), .some 8)), (none, (.mov (.const (.int .i64 0)), .some 9))] []) (.block 0 (.loop (.seq
  (.reg [(none, (.bin .lss (.tmp 9) (.tmp 8), .some 10))] []) (.seq (.cond (.tmp 10) .skip (.exit 0)) (.seq (.block 1 (.seq
  (.reg [(none, (.mov (.tmp 5), .some 11)), (none, (.mov (.tmp 0), .some 12)), (none, (.bin .rem (.tmp 12) (.const (.int .u64 256)), .some 13)), (none, (.cvt .u8 (.tmp 13), .some 14)), (none, (.bsl 1 [.tmp 14], .some 15)), (none, (.app 1 1 (.tmp 11) (.tmp 15), .some 16)), (none, (.mov (.tmp 16), .some 5))] [])
  (.reg [(none, (.mov (.tmp 0), .some 17)), (none, (.bin .quo (.tmp 17) (.const (.int .u64 256)), .some 18)), (none, (.mov (.tmp 18), .some 0))] [])))
  (.reg [(none, (.bin .add (.tmp 9) (.const (.int .i64 1)), .some 19)), (none, (.mov (.tmp 19), .some 9))] []))))))) (.seq
  (.reg [(none, (.mov (.tmp 5), .some 20)), (none, (.mov (.tmp 20), .some 4))] []) .ret)))
theorem b162 : Try.f162.body.bind (compC Try.prog) = some c162 := by kernel_rfl
theorem r162 : compR Try.prog Try.f162 = .some [.tmp 4] := by kernel_rfl
theorem n162 : (Try.f162.name == "runtime.NumGoroutine") = false := by kernel_rfl
def c165 : C := .seq
  (.reg [(none, (.mov (.const (.int .u64 0)), .some 4))] []) (.seq
  (.reg [(none, (.mov (.tmp 0), .some 7)), (none, (.call (.func 49) [.tmp 7], .some 8)), (none, (.mov (.tmp 8), .some 5))] []) (.seq
  (.reg [(none, (.mov (.tmp 0), .some 9)), (none, (.call (.func 100) [.tmp 9], .some 10)), (none, (.mov (.tmp 10), .some 6))] []) (.seq (.seq
  (.reg [(none, (.mov (.tmp 6), .some 11)), (none, (.mov (.tmp 1), .some 12)), (none, (.bin .gtr (.tmp 11) (.tmp 12), .some 13))] []) (.cond (.tmp 13) (.seq
  (.reg [(none, (.mov (.tmp 0), .some 14)), (none, (.mov (.tmp 5), .some 15)), (none, (.call (.func 97) [.tmp 14, .const (.int .i64 2), .tmp 15], .some 16))] []) (.seq
  (.reg [(none, (.mov (.const (.int .u64 0)), .some 4))] []) .ret)) .skip)) (.seq
  (.reg [(none, (.mov (.tmp 6), .some 17)), (none, (.mov (.tmp 17), .some 4))] []) .ret))))
theorem b165 : Try.f165.body.bind (compC Try.prog) = some c165 := by kernel_rfl
theorem r165 : compR Try.prog Try.f165 = .some [.tmp 4] := by kernel_rfl
theorem n165 : (Try.f165.name == "runtime.NumGoroutine") = false := by kernel_rfl
def c174 : C := .seq
  (.reg [(none, (.mov (.const (.int .i64 0)), .some 2))] []) (.seq (.seq
  (.reg [(none, (.mov (.tmp 0), .some 3)), (none, (.eqp .false (.tmp 3) (.const (.pointer none)), .some 4))] []) (.cond (.tmp 4) (.seq
  (.reg [(none, (.mov (.const (.int .i64 0)), .some 2))] []) .ret) .skip)) (.seq
  (.reg [(none, (.mov (.tmp 0), .some 5)), (none, (.nilc (.tmp 5), .some 6)), (none, (.fadr 0 (.tmp 6), .some 7)), (none, (.load none (.tmp 7), .some 8)), (none, (.mov (.tmp 0), .some 9)), (none, (.nilc (.tmp 9), .some 10)), (none, (.fadr 1 (.tmp 10), .some 11)), (none, (.load none (.tmp 11), .some 12)), (none, (.len .false (.tmp 12), .some 13)), (none, (.bin .sub (.tmp 8) (.tmp 13), .some 14)), (none, (.mov (.tmp 14), .some 2))] [(3, 7)]) .ret))
theorem b174 : Try.f174.body.bind (compC Try.prog) = some c174 := by kernel_rfl
theorem r174 : compR Try.prog Try.f174 = .some [.tmp 2] := by kernel_rfl
theorem n174 : (Try.f174.name == "runtime.NumGoroutine") = false := by kernel_rfl
def c176 : C := .seq
  (.reg [(none, (.mov (.const (.int .u32 0)), .some 4))] []) (.seq
  (.reg [(none, (.call (.func 188) [], .some 8)), (none, (.new [.int .u32 0, .int .u32 0, .int .u32 0, .int .u32 0, .int .u32 0, .int .u32 0, .int .u32 0, .int .u32 0, .int .u32 0, .int .u32 0, .int .u32 0, .int .u32 0, .int .u32 0, .int .u32 0, .int .u32 0, .int .u32 0], .some 5)), (none, (.store 16 (.tmp 5) (.tmp 8), none))] []) (.seq (.seq
  (.reg [(none, (.mov (.tmp 1), .some 9)), (none, (.len .false (.tmp 9), .some 10)), (none, (.mov (.const (.int .i64 0)), .some 11))] []) (.block 0 (.loop (.seq
  (.reg [(none, (.bin .lss (.tmp 11) (.tmp 10), .some 12))] []) (.seq (.cond (.tmp 12) .skip (.exit 0)) (.seq (.block 1 (.seq
  (.reg [(none, (.iadr 1 (.tmp 9) (.tmp 11), .some 13)), (none, (.load none (.tmp 13), .some 14)), (none, (.mov (.tmp 14), .some 7))] []) (.seq
  (.reg [(none, (.mov (.tmp 0), .some 15)), (none, (.mov (.tmp 7), .some 16)), (none, (.cvt .u32 (.tmp 16), .some 17)), (none, (.bin .xor (.tmp 15) (.tmp 17), .some 18)), (none, (.mov (.tmp 18), .some 0))] []) (.seq
  (.reg [(none, (.mov (.tmp 0), .some 19)), (none, (.bin .shr (.tmp 19) (.const (.int .u64 4)), .some 20)), (none, (.mov (.tmp 0), .some 21)), (none, (.bin .and (.tmp 21) (.const (.int .u32 15)), .some 22)), (none, (.aadr 16 1 (.tmp 5) (.tmp 22), .some 23)), (none, (.load none (.tmp 23), .some 24)), (none, (.bin .xor (.tmp 20) (.tmp 24), .some 25)), (none, (.mov (.tmp 25), .some 0))] [])
  (.reg [(none, (.mov (.tmp 0), .some 26)), (none, (.bin .shr (.tmp 26) (.const (.int .u64 4)), .some 27)), (none, (.mov (.tmp 0), .some 28)), (none, (.bin .and (.tmp 28) (.const (.int .u32 15)), .some 29)), (none, (.aadr 16 1 (.tmp 5) (.tmp 29), .some 30)), (none, (.load none (.tmp 30), .some 31)), (none, (.bin .xor (.tmp 27) (.tmp 31), .some 32)), (none, (.mov (.tmp 32), .some 0))] [])))))
  (.reg [(none, (.bin .add (.tmp 11) (.const (.int .i64 1)), .some 33)), (none, (.mov (.tmp 33), .some 11))] []))))))) (.seq
  (.reg [(none, (.mov (.tmp 0), .some 34)), (none, (.mov (.tmp 34), .some 4))] []) .ret)))
theorem b176 : Try.f176.body.bind (compC Try.prog) = some c176 := by kernel_rfl
theorem r176 : compR Try.prog Try.f176 = .some [.tmp 4] := by kernel_rfl
theorem n176 : (Try.f176.name == "runtime.NumGoroutine") = false := by kernel_rfl
end Go.Proofs.Ytkhnfleejgfhgaa
