/-
  The codes of the seat's functions over abstract values, each shown to be its function's own (by program: wip/tools/codes.py).
-/
import Derived.Test.YtkhnfleejgfhgaaA2
import Derived.Test.YtkhnfleejgfhgaaProg
import Derived.KernelRfl
namespace Go.Proofs.Ytkhnfleejgfhgaa
def c23 : C := .seq
  (.reg [(none, (.mov (.const (.bool .false)), .some 4))] []) (.seq
  (.reg [(none, (.mov (.tmp 0), .some 5)), (none, (.b2s (.tmp 5), .some 6)), (none, (.mov (.tmp 1), .some 7)), (none, (.b2s (.tmp 7), .some 8)), (none, (.bin .eql (.tmp 6) (.tmp 8), .some 9)), (none, (.mov (.tmp 9), .some 4))] []) .ret)
theorem b23 : Try.f23.body.bind (compC Try.prog) = some c23 := by kernel_rfl
theorem r23 : compR Try.prog Try.f23 = .some [.tmp 4] := by kernel_rfl
theorem n23 : (Try.f23.name == "runtime.NumGoroutine") = false := by kernel_rfl
def c49 : C := .seq
  (.reg [(none, (.mov (.const (.int .i64 0)), .some 2))] []) (.seq (.seq
  (.reg [(none, (.mov (.tmp 0), .some 3)), (none, (.eqp .false (.tmp 3) (.const (.pointer none)), .some 4))] []) (.cond (.tmp 4) (.seq
  (.reg [(none, (.mov (.const (.int .i64 0)), .some 2))] []) .ret) .skip)) (.seq
  (.reg [(none, (.mov (.tmp 0), .some 5)), (none, (.nilc (.tmp 5), .some 6)), (none, (.fadr 1 (.tmp 6), .some 7)), (none, (.load none (.tmp 7), .some 8)), (none, (.mov (.tmp 8), .some 2))] []) .ret))
theorem b49 : Try.f49.body.bind (compC Try.prog) = some c49 := by kernel_rfl
theorem r49 : compR Try.prog Try.f49 = .some [.tmp 2] := by kernel_rfl
theorem n49 : (Try.f49.name == "runtime.NumGoroutine") = false := by kernel_rfl
def c58 : C := .seq
  (.reg [(none, (.box (.tmp 0), .some 1)), (none, (.mov (.const (.bool .false)), .some 2))] []) (.seq
  (.reg [(none, (.fadr 0 (.tmp 1), .some 3)), (none, (.load none (.tmp 3), .some 4)), (none, (.bin .geq (.tmp 4) (.const (.int .i64 1)), .some 5)), (none, (.mov (.tmp 5), .some 6)), (.some (6, .true), (.fadr 0 (.tmp 1), .some 7)), (.some (6, .true), (.load none (.tmp 7), .some 8)), (.some (6, .true), (.bin .leq (.tmp 8) (.const (.int .i64 3)), .some 9)), (none, (.pick (.tmp 6) (.tmp 9) (.const (.bool .false)), .some 10)), (none, (.mov (.tmp 10), .some 11)), (.some (11, .true), (.fadr 1 (.tmp 1), .some 12)), (.some (11, .true), (.load none (.tmp 12), .some 13)), (.some (11, .true), (.call (.func 109) [.tmp 13], .some 14)), (none, (.pick (.tmp 11) (.tmp 14) (.const (.bool .false)), .some 15)), (none, (.mov (.tmp 15), .some 16)), (.some (16, .true), (.fadr 2 (.tmp 1), .some 17)), (.some (16, .true), (.load none (.tmp 17), .some 18)), (.some (16, .true), (.call (.func 133) [.tmp 18], .some 19)), (none, (.pick (.tmp 16) (.tmp 19) (.const (.bool .false)), .some 20)), (none, (.mov (.tmp 20), .some 21)), (.some (21, .true), (.fadr 0 (.tmp 1), .some 22)), (.some (21, .true), (.load none (.tmp 22), .some 23)), (.some (21, .true), (.bin .eql (.tmp 23) (.const (.int .i64 1)), .some 24)), (.some (21, .true), (.mov (.tmp 24), .some 25)), (.some (25, .false), (.fadr 2 (.tmp 1), .some 26)), (.some (25, .false), (.load none (.tmp 26), .some 27)), (.some (25, .false), (.bin .eql (.tmp 27) (.const (.int .u64 0)), .some 28)), (.some (21, .true), (.pick (.tmp 25) (.const (.bool .true)) (.tmp 28), .some 29)), (none, (.pick (.tmp 21) (.tmp 29) (.const (.bool .false)), .some 30)), (none, (.mov (.tmp 30), .some 2))] []) .ret)
theorem b58 : Try.f58.body.bind (compC Try.prog) = some c58 := by kernel_rfl
theorem r58 : compR Try.prog Try.f58 = .some [.tmp 2] := by kernel_rfl
theorem n58 : (Try.f58.name == "runtime.NumGoroutine") = false := by kernel_rfl
def c59 : C := .seq
  (.reg [(none, (.box (.tmp 0), .some 1)), (none, (.new [.int .i64 0, .int .u64 0, .int .u64 0], .some 2))] []) (.seq
  (.reg [(none, (.fadr 0 (.tmp 1), .some 3)), (none, (.load none (.tmp 3), .some 4)), (none, (.fadr 1 (.tmp 1), .some 5)), (none, (.load none (.tmp 5), .some 6)), (none, (.fadr 2 (.tmp 1), .some 7)), (none, (.load none (.tmp 7), .some 8)), (none, (.build [.int .i64 0, .int .u64 0, .int .u64 0] [(0, (1, .tmp 4)), (1, (1, .tmp 6)), (2, (1, .tmp 8))], .some 9)), (none, (.store 3 (.tmp 2) (.tmp 9), none))] []) .ret)
theorem b59 : Try.f59.body.bind (compC Try.prog) = some c59 := by kernel_rfl
theorem r59 : compR Try.prog Try.f59 = .some [.cell 2 (.some 3)] := by kernel_rfl
theorem n59 : (Try.f59.name == "runtime.NumGoroutine") = false := by kernel_rfl
def c61 : C := .seq
  (.reg [(none, (.box (.tmp 0), .some 1)), (none, (.mov (.const (.slice none 0 0)), .some 2)), (none, (.mov (.const (.int .i64 0)), .some 3))] []) (.seq
  (.reg [(none, (.call (.func 75) [], .some 5)), (none, (.call (.func 53) [.tmp 5], .some 6)), (none, (.mov (.tmp 6), .some 4))] []) (.seq
  (.reg [(none, (.mov (.tmp 4), .some 7)), (none, (.load (.some 3) (.tmp 1), .some 8)), (none, (.call (.func 71) [.tmp 7, .tmp 8], .some 9))] []) (.seq
  (.reg [(none, (.mov (.tmp 4), .some 10)), (none, (.call (.func 55) [.tmp 10], .some 11)), (none, (.ext (.tmp 11) 0, .some 12)), (none, (.ext (.tmp 11) 1, .some 13)), (none, (.mov (.tmp 12), .some 2)), (none, (.mov (.tmp 13), .some 3))] []) .ret)))
theorem b61 : Try.f61.body.bind (compC Try.prog) = some c61 := by kernel_rfl
theorem r61 : compR Try.prog Try.f61 = .some [.tmp 2, .tmp 3] := by kernel_rfl
theorem n61 : (Try.f61.name == "runtime.NumGoroutine") = false := by kernel_rfl
def c62 : C := .seq
  (.reg [(none, (.mov (.const (.slice none 0 0)), .some 6))] []) (.seq
  (.reg [(none, (.mov (.const (.slice none 0 0)), .some 7))] []) (.seq (.seq
  (.reg [(none, (.mov (.const (.int .i64 0)), .some 8))] []) (.block 0 (.loop (.seq (.seq
  (.reg [(none, (.mov (.tmp 8), .some 12)), (none, (.mov (.tmp 0), .some 13)), (none, (.len .false (.tmp 13), .some 14)), (none, (.bin .lss (.tmp 12) (.tmp 14), .some 15))] []) (.cond (.tmp 15) .skip (.exit 0))) (.seq (.block 1 (.seq
  (.reg [(none, (.mov (.tmp 0), .some 18)), (none, (.mov (.tmp 8), .some 19)), (none, (.iadr 1 (.tmp 18) (.tmp 19), .some 20)), (none, (.load none (.tmp 20), .some 21)), (none, (.mov (.tmp 21), .some 9))] []) (.seq (.seq
  (.reg [(none, (.mov (.const (.int .i64 0)), .some 10))] []) (.block 2 (.loop (.seq (.seq
  (.reg [(none, (.mov (.tmp 10), .some 22)), (none, (.bin .lss (.tmp 22) (.const (.int .i64 8)), .some 23))] []) (.cond (.tmp 23) .skip (.exit 2))) (.seq (.block 3 (.seq
  (.reg [(none, (.mov (.tmp 8), .some 26)), (none, (.bin .mul (.const (.int .i64 8)) (.tmp 26), .some 27)), (none, (.mov (.tmp 10), .some 28)), (none, (.bin .add (.tmp 27) (.tmp 28), .some 29)), (none, (.mov (.tmp 1), .some 30)), (none, (.bin .sub (.tmp 29) (.tmp 30), .some 31)), (none, (.mov (.tmp 31), .some 11))] []) (.seq
  (.reg [(none, (.mov (.tmp 11), .some 32)), (none, (.bin .geq (.tmp 32) (.const (.int .i64 0)), .some 33)), (none, (.mov (.tmp 33), .some 34)), (.some (34, .true), (.mov (.tmp 11), .some 35)), (.some (34, .true), (.bin .lss (.tmp 35) (.const (.int .i64 32)), .some 36)), (none, (.pick (.tmp 34) (.tmp 36) (.const (.bool .false)), .some 37)), (none, (.mov (.tmp 37), .some 38)), (.some (38, .true), (.mov (.tmp 2), .some 39)), (.some (38, .true), (.mov (.tmp 11), .some 40)), (.some (38, .true), (.cvt .u64 (.tmp 40), .some 41)), (.some (38, .true), (.bin .shr (.tmp 39) (.tmp 41), .some 42)), (.some (38, .true), (.bin .rem (.tmp 42) (.const (.int .u32 2)), .some 43)), (.some (38, .true), (.bin .eql (.tmp 43) (.const (.int .u32 1)), .some 44)), (none, (.pick (.tmp 38) (.tmp 44) (.const (.bool .false)), .some 45))] []) (.cond (.tmp 45)
  (.reg [(none, (.mov (.tmp 9), .some 46)), (none, (.mov (.tmp 10), .some 47)), (none, (.cvt .u64 (.tmp 47), .some 48)), (none, (.bin .shl (.const (.int .u8 1)) (.tmp 48), .some 49)), (none, (.bin .xor (.tmp 46) (.tmp 49), .some 50)), (none, (.mov (.tmp 50), .some 9))] []) .skip))))
  (.reg [(none, (.mov (.tmp 10), .some 24)), (none, (.bin .add (.tmp 24) (.const (.int .i64 1)), .some 25)), (none, (.mov (.tmp 25), .some 10))] []))))))
  (.reg [(none, (.mov (.tmp 7), .some 51)), (none, (.mov (.tmp 9), .some 52)), (none, (.bsl 1 [.tmp 52], .some 53)), (none, (.app 1 1 (.tmp 51) (.tmp 53), .some 54)), (none, (.mov (.tmp 54), .some 7))] []))))
  (.reg [(none, (.mov (.tmp 8), .some 16)), (none, (.bin .add (.tmp 16) (.const (.int .i64 1)), .some 17)), (none, (.mov (.tmp 17), .some 8))] [])))))) (.seq
  (.reg [(none, (.mov (.tmp 7), .some 55)), (none, (.mov (.tmp 55), .some 6))] []) .ret)))
theorem b62 : Try.f62.body.bind (compC Try.prog) = some c62 := by kernel_rfl
theorem r62 : compR Try.prog Try.f62 = .some [.tmp 6] := by kernel_rfl
theorem n62 : (Try.f62.name == "runtime.NumGoroutine") = false := by kernel_rfl
def c73 : C := .seq
  (.reg [(none, (.mov (.const (.int .i64 0)), .some 2)), (none, (.new [.int .i64 0, .int .i64 0], .some 3))] []) (.seq
  (.reg [(none, (.mov (.tmp 0), .some 7)), (none, (.call (.func 44) [.tmp 7], .some 8)), (none, (.mov (.tmp 8), .some 4))] []) (.seq
  (.reg [(none, (.mov (.tmp 4), .some 9)), (none, (.call (.func 146) [.tmp 9], .some 10)), (none, (.mov (.tmp 10), .some 5))] []) (.seq (.seq
  (.reg [(none, (.mov (.tmp 4), .some 11)), (none, (.call (.func 48) [.tmp 11], .some 12)), (none, (.new [.int .i64 0, .int .i64 0], .some 6)), (none, (.store 2 (.tmp 6) (.tmp 12), none))] []) (.seq
  (.reg [(none, (.load (.some 2) (.tmp 6), .some 13)), (none, (.call (.func 102) [.tmp 13], .some 14)), (none, (.un .not (.tmp 14), .some 15))] []) (.cond (.tmp 15) (.seq
  (.reg [(none, (.load (.some 2) (.tmp 6), .some 16)), (none, (.mov (.const (.int .i64 0)), .some 2)), (none, (.store 2 (.tmp 3) (.tmp 16), none))] []) .ret) .skip))) (.seq
  (.reg [(none, (.mov (.tmp 5), .some 17)), (none, (.build [.int .i64 0, .int .i64 0] [], .some 18)), (none, (.mov (.tmp 17), .some 2)), (none, (.store 2 (.tmp 3) (.tmp 18), none))] []) .ret))))
theorem b73 : Try.f73.body.bind (compC Try.prog) = some c73 := by kernel_rfl
theorem r73 : compR Try.prog Try.f73 = .some [.tmp 2, .cell 3 (.some 2)] := by kernel_rfl
theorem n73 : (Try.f73.name == "runtime.NumGoroutine") = false := by kernel_rfl
def c79 : C := .seq
  (.reg [(none, (.new [.int .i64 0, .int .u64 0, .int .u64 0], .some 2))] []) (.seq
  (.reg [(none, (.mov (.tmp 0), .some 6)), (none, (.call (.func 146) [.tmp 6], .some 7)), (none, (.build [.int .i64 0, .int .u64 0, .int .u64 0] [(0, (1, .tmp 7))], .some 8)), (none, (.new [.int .i64 0, .int .u64 0, .int .u64 0], .some 3)), (none, (.store 3 (.tmp 3) (.tmp 8), none))] []) (.seq
  (.reg [(none, (.mov (.tmp 0), .some 9)), (none, (.call (.func 98) [.tmp 9], .some 10)), (none, (.fadr 1 (.tmp 3), .some 11)), (none, (.store 1 (.tmp 11) (.tmp 10), none))] []) (.seq (.seq
  (.reg [(none, (.fadr 0 (.tmp 3), .some 12)), (none, (.load none (.tmp 12), .some 13)), (none, (.call (.func 145) [.tmp 13], .some 14))] []) (.cond (.tmp 14)
  (.reg [(none, (.mov (.tmp 0), .some 15)), (none, (.call (.func 151) [.tmp 15], .some 16)), (none, (.fadr 2 (.tmp 3), .some 17)), (none, (.store 1 (.tmp 17) (.tmp 16), none))] []) .skip)) (.seq
  (.reg [(none, (.mov (.tmp 0), .some 18)), (none, (.call (.func 49) [.tmp 18], .some 19)), (none, (.mov (.tmp 19), .some 4))] []) (.seq
  (.reg [(none, (.mov (.tmp 0), .some 20)), (none, (.call (.func 152) [.tmp 20, .const (.int .i64 4)], .some 21)), (none, (.mov (.tmp 21), .some 5))] []) (.seq (.seq
  (.reg [(none, (.mov (.tmp 0), .some 22)), (none, (.call (.func 57) [.tmp 22], .some 23)), (none, (.un .not (.tmp 23), .some 24))] []) (.cond (.tmp 24) (.seq
  (.reg [(none, (.build [.int .i64 0, .int .u64 0, .int .u64 0] [], .some 25)), (none, (.store 3 (.tmp 2) (.tmp 25), none))] []) .ret) .skip)) (.seq (.seq
  (.reg [(none, (.mov (.tmp 5), .some 26)), (none, (.load (.some 3) (.tmp 3), .some 27)), (none, (.call (.func 139) [.tmp 27], .some 28)), (none, (.call (.func 142) [.tmp 28], .some 29)), (none, (.cvt .u64 (.tmp 29), .some 30)), (none, (.bin .neq (.tmp 26) (.tmp 30), .some 31))] []) (.cond (.tmp 31) (.seq
  (.reg [(none, (.mov (.tmp 0), .some 32)), (none, (.mov (.tmp 4), .some 33)), (none, (.call (.func 97) [.tmp 32, .const (.int .i64 6), .tmp 33], .some 34))] []) (.seq
  (.reg [(none, (.build [.int .i64 0, .int .u64 0, .int .u64 0] [], .some 35)), (none, (.store 3 (.tmp 2) (.tmp 35), none))] []) .ret)) .skip)) (.seq
  (.reg [(none, (.load (.some 3) (.tmp 3), .some 36)), (none, (.store 3 (.tmp 2) (.tmp 36), none))] []) .ret))))))))
theorem b79 : Try.f79.body.bind (compC Try.prog) = some c79 := by kernel_rfl
theorem r79 : compR Try.prog Try.f79 = .some [.cell 2 (.some 3)] := by kernel_rfl
theorem n79 : (Try.f79.name == "runtime.NumGoroutine") = false := by kernel_rfl
def c98 : C := .seq
  (.reg [(none, (.mov (.const (.int .u64 0)), .some 2))] []) (.seq
  (.reg [(none, (.mov (.tmp 0), .some 3)), (none, (.call (.func 164) [.tmp 3, .func 143], .some 4)), (none, (.mov (.tmp 4), .some 2))] []) .ret)
theorem b98 : Try.f98.body.bind (compC Try.prog) = some c98 := by kernel_rfl
theorem r98 : compR Try.prog Try.f98 = .some [.tmp 2] := by kernel_rfl
theorem n98 : (Try.f98.name == "runtime.NumGoroutine") = false := by kernel_rfl
def c126 : C := .seq
  (.reg [(none, (.mov (.tmp 0), .some 4)), (none, (.call (.func 130) [.tmp 4], .some 5)), (none, (.bin .eql (.tmp 5) (.const (.int .i64 0)), .some 6))] []) (.cond (.tmp 6)
  (.reg [(none, (.mov (.tmp 0), .some 7)), (none, (.mov (.tmp 1), .some 8)), (none, (.nilc (.tmp 7), .some 9)), (none, (.fadr 2 (.tmp 9), .some 10)), (none, (.store 1 (.tmp 10) (.tmp 8), none))] []) .skip)
theorem b126 : Try.f126.body.bind (compC Try.prog) = some c126 := by kernel_rfl
theorem r126 : compR Try.prog Try.f126 = .some [] := by kernel_rfl
theorem n126 : (Try.f126.name == "runtime.NumGoroutine") = false := by kernel_rfl
def c140 : C := .block 0 (.seq
  (.reg [(none, (.mov (.tmp 0), .some 14)), (none, (.call (.func 130) [.tmp 14], .some 15)), (none, (.bin .neq (.tmp 15) (.const (.int .i64 0)), .some 16)), (none, (.mov (.tmp 16), .some 13))] []) (.cond (.tmp 13) .skip (.seq
  (.reg [(none, (.mov (.tmp 1), .some 18)), (none, (.len .false (.tmp 18), .some 19)), (none, (.mov (.tmp 0), .some 20)), (none, (.call (.func 174) [.tmp 20], .some 21)), (none, (.bin .gtr (.tmp 19) (.tmp 21), .some 22)), (none, (.mov (.tmp 22), .some 17))] []) (.cond (.tmp 17)
  (.reg [(none, (.mov (.tmp 0), .some 23)), (none, (.call (.func 126) [.tmp 23, .const (.int .i64 2)], .some 24))] [])
  (.reg [(none, (.mov (.tmp 0), .some 4)), (none, (.mov (.tmp 0), .some 5)), (none, (.nilc (.tmp 5), .some 6)), (none, (.fadr 1 (.tmp 6), .some 7)), (none, (.load none (.tmp 7), .some 8)), (none, (.mov (.tmp 1), .some 9)), (none, (.app 1 1 (.tmp 8) (.tmp 9), .some 10)), (none, (.nilc (.tmp 4), .some 11)), (none, (.fadr 1 (.tmp 11), .some 12)), (none, (.store 1 (.tmp 12) (.tmp 10), none))] [])))))
theorem b140 : Try.f140.body.bind (compC Try.prog) = some c140 := by kernel_rfl
theorem r140 : compR Try.prog Try.f140 = .some [] := by kernel_rfl
theorem n140 : (Try.f140.name == "runtime.NumGoroutine") = false := by kernel_rfl
def c144 : C := .seq
  (.reg [(none, (.mov (.const (.bool .false)), .some 2))] []) (.seq
  (.reg [(none, (.mov (.tmp 0), .some 3)), (none, (.bin .lss (.tmp 3) (.const (.int .u64 4611686018427387904)), .some 4)), (none, (.mov (.tmp 4), .some 2))] []) .ret)
theorem b144 : Try.f144.body.bind (compC Try.prog) = some c144 := by kernel_rfl
theorem r144 : compR Try.prog Try.f144 = .some [.tmp 2] := by kernel_rfl
theorem n144 : (Try.f144.name == "runtime.NumGoroutine") = false := by kernel_rfl
def c163 : C := .reg [(none, (.mov (.tmp 0), .some 4)), (none, (.mov (.tmp 1), .some 5)), (none, (.s2b (.tmp 5), .some 6)), (none, (.call (.func 140) [.tmp 4, .tmp 6], .some 7))] []
theorem b163 : Try.f163.body.bind (compC Try.prog) = some c163 := by kernel_rfl
theorem r163 : compR Try.prog Try.f163 = .some [] := by kernel_rfl
theorem n163 : (Try.f163.name == "runtime.NumGoroutine") = false := by kernel_rfl
def c174 : C := .seq
  (.reg [(none, (.mov (.const (.int .i64 0)), .some 2))] []) (.seq (.seq
  (.reg [(none, (.mov (.tmp 0), .some 3)), (none, (.eqp .false (.tmp 3) (.const (.pointer none)), .some 4))] []) (.cond (.tmp 4) (.seq
  (.reg [(none, (.mov (.const (.int .i64 0)), .some 2))] []) .ret) .skip)) (.seq
  (.reg [(none, (.mov (.tmp 0), .some 5)), (none, (.nilc (.tmp 5), .some 6)), (none, (.fadr 0 (.tmp 6), .some 7)), (none, (.load none (.tmp 7), .some 8)), (none, (.mov (.tmp 0), .some 9)), (none, (.nilc (.tmp 9), .some 10)), (none, (.fadr 1 (.tmp 10), .some 11)), (none, (.load none (.tmp 11), .some 12)), (none, (.len .false (.tmp 12), .some 13)), (none, (.bin .sub (.tmp 8) (.tmp 13), .some 14)), (none, (.mov (.tmp 14), .some 2))] [(3, 7)]) .ret))
theorem b174 : Try.f174.body.bind (compC Try.prog) = some c174 := by kernel_rfl
theorem r174 : compR Try.prog Try.f174 = .some [.tmp 2] := by kernel_rfl
theorem n174 : (Try.f174.name == "runtime.NumGoroutine") = false := by kernel_rfl
def c177 : C := .seq
  (.reg [(none, (.mov (.const (.int .u32 0)), .some 0))] []) (.seq
  (.reg [(none, (.mov (.const (.int .u32 4294967295)), .some 0))] []) .ret)
theorem b177 : Try.f177.body.bind (compC Try.prog) = some c177 := by kernel_rfl
theorem r177 : compR Try.prog Try.f177 = .some [.tmp 0] := by kernel_rfl
theorem n177 : (Try.f177.name == "runtime.NumGoroutine") = false := by kernel_rfl
def c188 : C := .seq
  (.reg [(none, (.new [.int .u32 0, .int .u32 0, .int .u32 0, .int .u32 0, .int .u32 0, .int .u32 0, .int .u32 0, .int .u32 0, .int .u32 0, .int .u32 0, .int .u32 0, .int .u32 0, .int .u32 0, .int .u32 0, .int .u32 0, .int .u32 0], .some 0))] []) (.seq
  (.reg [(none, (.new [.int .u32 0, .int .u32 0, .int .u32 0, .int .u32 0, .int .u32 0, .int .u32 0, .int .u32 0, .int .u32 0, .int .u32 0, .int .u32 0, .int .u32 0, .int .u32 0, .int .u32 0, .int .u32 0, .int .u32 0, .int .u32 0], .some 1))] []) (.seq (.seq
  (.reg [(none, (.mov (.const (.int .i64 0)), .some 4))] []) (.block 0 (.loop (.seq
  (.reg [(none, (.bin .lss (.tmp 4) (.const (.int .i64 16)), .some 5))] []) (.seq (.cond (.tmp 5) .skip (.exit 0)) (.seq (.block 1 (.seq
  (.reg [(none, (.mov (.tmp 4), .some 6)), (none, (.mov (.tmp 6), .some 2))] []) (.seq
  (.reg [(none, (.mov (.tmp 2), .some 7)), (none, (.cvt .u32 (.tmp 7), .some 8)), (none, (.mov (.tmp 8), .some 3))] []) (.seq (.seq
  (.reg [(none, (.mov (.const (.int .i64 0)), .some 9))] []) (.block 2 (.loop (.seq
  (.reg [(none, (.bin .lss (.tmp 9) (.const (.int .i64 4)), .some 10))] []) (.seq (.cond (.tmp 10) .skip (.exit 2)) (.seq (.block 3
  (.reg [(none, (.mov (.tmp 3), .some 11)), (none, (.call (.func 196) [.tmp 11], .some 12)), (none, (.mov (.tmp 12), .some 3))] []))
  (.reg [(none, (.bin .add (.tmp 9) (.const (.int .i64 1)), .some 13)), (none, (.mov (.tmp 13), .some 9))] [])))))))
  (.reg [(none, (.mov (.tmp 2), .some 14)), (none, (.mov (.tmp 3), .some 15)), (none, (.aadr 16 1 (.tmp 1) (.tmp 14), .some 16)), (none, (.store 1 (.tmp 16) (.tmp 15), none))] [])))))
  (.reg [(none, (.bin .add (.tmp 4) (.const (.int .i64 1)), .some 17)), (none, (.mov (.tmp 17), .some 4))] []))))))) (.seq
  (.reg [(none, (.load (.some 16) (.tmp 1), .some 18)), (none, (.store 16 (.tmp 0) (.tmp 18), none))] []) .ret)))
theorem b188 : Try.f188.body.bind (compC Try.prog) = some c188 := by kernel_rfl
theorem r188 : compR Try.prog Try.f188 = .some [.cell 0 (.some 16)] := by kernel_rfl
theorem n188 : (Try.f188.name == "runtime.NumGoroutine") = false := by kernel_rfl
end Go.Proofs.Ytkhnfleejgfhgaa
