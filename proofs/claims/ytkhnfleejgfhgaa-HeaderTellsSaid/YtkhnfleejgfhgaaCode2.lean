/-
  The codes of the seat's functions over abstract values, each shown to be its function's own (by program: wip/tools/codes.py).
-/
import Derived.Test.YtkhnfleejgfhgaaA2
import Derived.Test.YtkhnfleejgfhgaaProg
import Derived.KernelRfl
namespace Go.Proofs.Ytkhnfleejgfhgaa
def c48 : C := .seq
  (.reg [(none, (.new [.int .i64 0, .int .i64 0], .some 2))] []) (.seq (.seq
  (.reg [(none, (.mov (.tmp 0), .some 3)), (none, (.eqp .false (.tmp 3) (.const (.pointer none)), .some 4))] []) (.cond (.tmp 4) (.seq
  (.reg [(none, (.call (.func 124) [.const (.int .i64 19), .const (.int .i64 0)], .some 5)), (none, (.store 2 (.tmp 2) (.tmp 5), none))] []) .ret) .skip)) (.seq
  (.reg [(none, (.mov (.tmp 0), .some 6)), (none, (.nilc (.tmp 6), .some 7)), (none, (.fadr 2 (.tmp 7), .some 8)), (none, (.load (.some 2) (.tmp 8), .some 9)), (none, (.store 2 (.tmp 2) (.tmp 9), none))] []) .ret))
theorem b48 : Try.f48.body.bind (compC Try.prog) = some c48 := by kernel_rfl
theorem r48 : compR Try.prog Try.f48 = .some [.cell 2 (.some 2)] := by kernel_rfl
theorem n48 : (Try.f48.name == "runtime.NumGoroutine") = false := by kernel_rfl
def c55 : C := .seq
  (.reg [(none, (.mov (.const (.slice none 0 0)), .some 2)), (none, (.mov (.const (.int .i64 0)), .some 3))] []) (.seq (.seq
  (.reg [(none, (.mov (.tmp 0), .some 5)), (none, (.call (.func 130) [.tmp 5], .some 6)), (none, (.mov (.tmp 6), .some 4))] []) (.seq
  (.reg [(none, (.mov (.tmp 4), .some 7)), (none, (.bin .neq (.tmp 7) (.const (.int .i64 0)), .some 8))] []) (.cond (.tmp 8) (.seq
  (.reg [(none, (.mov (.tmp 4), .some 9)), (none, (.mov (.const (.slice none 0 0)), .some 2)), (none, (.mov (.tmp 9), .some 3))] []) .ret) .skip))) (.seq
  (.reg [(none, (.bsl 1 [], .some 10)), (none, (.mov (.tmp 0), .some 11)), (none, (.nilc (.tmp 11), .some 12)), (none, (.fadr 1 (.tmp 12), .some 13)), (none, (.load none (.tmp 13), .some 14)), (none, (.app 1 1 (.tmp 10) (.tmp 14), .some 15)), (none, (.mov (.tmp 15), .some 2)), (none, (.mov (.const (.int .i64 0)), .some 3))] []) .ret))
theorem b55 : Try.f55.body.bind (compC Try.prog) = some c55 := by kernel_rfl
theorem r55 : compR Try.prog Try.f55 = .some [.tmp 2, .tmp 3] := by kernel_rfl
theorem n55 : (Try.f55.name == "runtime.NumGoroutine") = false := by kernel_rfl
def c57 : C := .seq
  (.reg [(none, (.mov (.const (.bool .false)), .some 2))] []) (.seq
  (.reg [(none, (.mov (.tmp 0), .some 3)), (none, (.eqp .true (.tmp 3) (.const (.pointer none)), .some 4)), (none, (.mov (.tmp 4), .some 5)), (.some (5, .true), (.mov (.tmp 0), .some 6)), (.some (5, .true), (.nilc (.tmp 6), .some 7)), (.some (5, .true), (.fadr 2 (.tmp 7), .some 8)), (.some (5, .true), (.load (.some 2) (.tmp 8), .some 9)), (.some (5, .true), (.call (.func 102) [.tmp 9], .some 10)), (none, (.pick (.tmp 5) (.tmp 10) (.const (.bool .false)), .some 11)), (none, (.mov (.tmp 11), .some 2))] []) .ret)
theorem b57 : Try.f57.body.bind (compC Try.prog) = some c57 := by kernel_rfl
theorem r57 : compR Try.prog Try.f57 = .some [.tmp 2] := by kernel_rfl
theorem n57 : (Try.f57.name == "runtime.NumGoroutine") = false := by kernel_rfl
def c72 : C := .seq
  (.reg [(none, (.box (.tmp 0), .some 1)), (none, (.mov (.const (.bool .false)), .some 2))] []) (.seq
  (.reg [(none, (.fadr 0 (.tmp 1), .some 4)), (none, (.load none (.tmp 4), .some 5)), (none, (.bin .geq (.tmp 5) (.const (.int .i64 1)), .some 6)), (none, (.mov (.tmp 6), .some 7)), (.some (7, .true), (.fadr 0 (.tmp 1), .some 8)), (.some (7, .true), (.load none (.tmp 8), .some 9)), (.some (7, .true), (.bin .leq (.tmp 9) (.const (.int .i64 3)), .some 10)), (none, (.pick (.tmp 7) (.tmp 10) (.const (.bool .false)), .some 11)), (none, (.mov (.tmp 11), .some 3))] []) (.seq
  (.reg [(none, (.mov (.tmp 3), .some 12)), (none, (.mov (.tmp 12), .some 13)), (.some (13, .true), (.fadr 1 (.tmp 1), .some 14)), (.some (13, .true), (.load none (.tmp 14), .some 15)), (.some (13, .true), (.call (.func 143) [.tmp 15], .some 16)), (none, (.pick (.tmp 13) (.tmp 16) (.const (.bool .false)), .some 17)), (none, (.mov (.tmp 17), .some 18)), (.some (18, .true), (.fadr 2 (.tmp 1), .some 19)), (.some (18, .true), (.load none (.tmp 19), .some 20)), (.some (18, .true), (.call (.func 144) [.tmp 20], .some 21)), (none, (.pick (.tmp 18) (.tmp 21) (.const (.bool .false)), .some 22)), (none, (.mov (.tmp 22), .some 23)), (.some (23, .true), (.fadr 0 (.tmp 1), .some 24)), (.some (23, .true), (.load none (.tmp 24), .some 25)), (.some (23, .true), (.call (.func 145) [.tmp 25], .some 26)), (.some (23, .true), (.mov (.tmp 26), .some 27)), (.some (27, .false), (.fadr 2 (.tmp 1), .some 28)), (.some (27, .false), (.load none (.tmp 28), .some 29)), (.some (27, .false), (.bin .eql (.tmp 29) (.const (.int .u64 0)), .some 30)), (.some (23, .true), (.pick (.tmp 27) (.const (.bool .true)) (.tmp 30), .some 31)), (none, (.pick (.tmp 23) (.tmp 31) (.const (.bool .false)), .some 32)), (none, (.mov (.tmp 32), .some 2))] []) .ret))
theorem b72 : Try.f72.body.bind (compC Try.prog) = some c72 := by kernel_rfl
theorem r72 : compR Try.prog Try.f72 = .some [.tmp 2] := by kernel_rfl
theorem n72 : (Try.f72.name == "runtime.NumGoroutine") = false := by kernel_rfl
def c97 : C := .seq
  (.reg [(none, (.mov (.tmp 0), .some 6)), (none, (.call (.func 57) [.tmp 6], .some 7))] []) (.cond (.tmp 7)
  (.reg [(none, (.mov (.tmp 0), .some 8)), (none, (.mov (.tmp 1), .some 9)), (none, (.mov (.tmp 2), .some 10)), (none, (.call (.func 124) [.tmp 9, .tmp 10], .some 11)), (none, (.nilc (.tmp 8), .some 12)), (none, (.fadr 2 (.tmp 12), .some 13)), (none, (.store 2 (.tmp 13) (.tmp 11), none))] []) .skip)
theorem b97 : Try.f97.body.bind (compC Try.prog) = some c97 := by kernel_rfl
theorem r97 : compR Try.prog Try.f97 = .some [] := by kernel_rfl
theorem n97 : (Try.f97.name == "runtime.NumGoroutine") = false := by kernel_rfl
def c100 : C := .seq
  (.reg [(none, (.mov (.const (.int .u64 0)), .some 2))] []) (.scope (.seq
  (.reg [(none, (.mov (.const (.int .u64 0)), .some 3))] []) (.seq
  (.reg [(none, (.mov (.const (.int .u8 0)), .some 4))] []) (.seq
  (.reg [(none, (.mov (.tmp 0), .some 7)), (none, (.call (.func 49) [.tmp 7], .some 8)), (none, (.mov (.const (.int .i64 0)), .some 5)), (none, (.mov (.tmp 8), .some 6))] []) (.seq (.label 0) (.seq
  (.reg [(none, (.mov (.tmp 0), .some 9)), (none, (.call (.func 96) [.tmp 9], .some 10)), (none, (.mov (.tmp 10), .some 4))] []) (.seq (.block 0 (.seq
  (.reg [(none, (.mov (.tmp 0), .some 12)), (none, (.call (.func 57) [.tmp 12], .some 13)), (none, (.un .not (.tmp 13), .some 14)), (none, (.mov (.tmp 14), .some 11))] []) (.cond (.tmp 11) (.seq
  (.reg [(none, (.mov (.const (.int .u64 0)), .some 2))] []) .ret) (.seq
  (.reg [(none, (.mov (.tmp 5), .some 16)), (none, (.bin .eql (.tmp 16) (.const (.int .i64 63)), .some 17)), (none, (.mov (.tmp 17), .some 18)), (.some (18, .true), (.mov (.tmp 4), .some 19)), (.some (18, .true), (.bin .gtr (.tmp 19) (.const (.int .u8 1)), .some 20)), (none, (.pick (.tmp 18) (.tmp 20) (.const (.bool .false)), .some 21)), (none, (.mov (.tmp 21), .some 15))] []) (.cond (.tmp 15) (.seq
  (.reg [(none, (.mov (.tmp 0), .some 22)), (none, (.mov (.tmp 0), .some 23)), (none, (.call (.func 49) [.tmp 23], .some 24)), (none, (.bin .sub (.tmp 24) (.const (.int .i64 1)), .some 25)), (none, (.call (.func 97) [.tmp 22, .const (.int .i64 5), .tmp 25], .some 26))] []) (.seq
  (.reg [(none, (.mov (.const (.int .u64 0)), .some 2))] []) .ret)) (.seq
  (.reg [(none, (.mov (.tmp 4), .some 28)), (none, (.bin .eql (.tmp 28) (.const (.int .u8 0)), .some 29)), (none, (.mov (.tmp 29), .some 30)), (.some (30, .true), (.mov (.tmp 0), .some 31)), (.some (30, .true), (.call (.func 49) [.tmp 31], .some 32)), (.some (30, .true), (.bin .sub (.tmp 32) (.const (.int .i64 1)), .some 33)), (.some (30, .true), (.mov (.tmp 6), .some 34)), (.some (30, .true), (.bin .gtr (.tmp 33) (.tmp 34), .some 35)), (none, (.pick (.tmp 30) (.tmp 35) (.const (.bool .false)), .some 36)), (none, (.mov (.tmp 36), .some 27))] []) (.cond (.tmp 27) (.seq
  (.reg [(none, (.mov (.tmp 0), .some 37)), (none, (.mov (.tmp 0), .some 38)), (none, (.call (.func 49) [.tmp 38], .some 39)), (none, (.bin .sub (.tmp 39) (.const (.int .i64 1)), .some 40)), (none, (.call (.func 97) [.tmp 37, .const (.int .i64 4), .tmp 40], .some 41))] []) (.seq
  (.reg [(none, (.mov (.const (.int .u64 0)), .some 2))] []) .ret)) .skip))))))) (.seq
  (.reg [(none, (.mov (.tmp 3), .some 42)), (none, (.mov (.tmp 4), .some 43)), (none, (.bin .rem (.tmp 43) (.const (.int .u8 128)), .some 44)), (none, (.cvt .u64 (.tmp 44), .some 45)), (none, (.mov (.tmp 5), .some 46)), (none, (.bin .shl (.tmp 45) (.tmp 46), .some 47)), (none, (.bin .or (.tmp 42) (.tmp 47), .some 48)), (none, (.mov (.tmp 48), .some 3))] []) (.seq
  (.reg [(none, (.mov (.tmp 5), .some 49)), (none, (.bin .add (.tmp 49) (.const (.int .i64 7)), .some 50)), (none, (.mov (.tmp 50), .some 5))] []) (.seq (.seq
  (.reg [(none, (.mov (.tmp 4), .some 51)), (none, (.bin .geq (.tmp 51) (.const (.int .u8 128)), .some 52))] []) (.cond (.tmp 52) (.goto 0) .skip)) (.seq
  (.reg [(none, (.mov (.tmp 3), .some 53)), (none, (.mov (.tmp 53), .some 2))] []) .ret)))))))))))
theorem b100 : Try.f100.body.bind (compC Try.prog) = some c100 := by kernel_rfl
theorem r100 : compR Try.prog Try.f100 = .some [.tmp 2] := by kernel_rfl
theorem n100 : (Try.f100.name == "runtime.NumGoroutine") = false := by kernel_rfl
def c102 : C := .seq
  (.reg [(none, (.box (.tmp 0), .some 1)), (none, (.mov (.const (.bool .false)), .some 2))] []) (.seq
  (.reg [(none, (.fadr 0 (.tmp 1), .some 3)), (none, (.load none (.tmp 3), .some 4)), (none, (.bin .eql (.tmp 4) (.const (.int .i64 0)), .some 5)), (none, (.mov (.tmp 5), .some 2))] []) .ret)
theorem b102 : Try.f102.body.bind (compC Try.prog) = some c102 := by kernel_rfl
theorem r102 : compR Try.prog Try.f102 = .some [.tmp 2] := by kernel_rfl
theorem n102 : (Try.f102.name == "runtime.NumGoroutine") = false := by kernel_rfl
def c109 : C := .seq
  (.reg [(none, (.mov (.const (.bool .false)), .some 2))] []) (.seq
  (.reg [(none, (.mov (.tmp 0), .some 3)), (none, (.bin .gtr (.tmp 3) (.const (.int .u64 0)), .some 4)), (none, (.mov (.tmp 4), .some 5)), (.some (5, .true), (.mov (.tmp 0), .some 6)), (.some (5, .true), (.bin .leq (.tmp 6) (.const (.int .u64 4611686018427387903)), .some 7)), (none, (.pick (.tmp 5) (.tmp 7) (.const (.bool .false)), .some 8)), (none, (.mov (.tmp 8), .some 2))] []) .ret)
theorem b109 : Try.f109.body.bind (compC Try.prog) = some c109 := by kernel_rfl
theorem r109 : compR Try.prog Try.f109 = .some [.tmp 2] := by kernel_rfl
theorem n109 : (Try.f109.name == "runtime.NumGoroutine") = false := by kernel_rfl
def c139 : C := .seq
  (.reg [(none, (.box (.tmp 0), .some 1)), (none, (.mov (.const (.slice none 0 0)), .some 2))] []) (.seq
  (.reg [(none, (.call (.func 75) [], .some 6)), (none, (.call (.func 53) [.tmp 6], .some 7)), (none, (.mov (.tmp 7), .some 3))] []) (.seq
  (.reg [(none, (.mov (.tmp 3), .some 8)), (none, (.call (.func 163) [.tmp 8, .const (.string (.mk (#[84, 72, 79, 76])))], .some 9))] []) (.seq
  (.reg [(none, (.mov (.tmp 3), .some 10)), (none, (.fadr 0 (.tmp 1), .some 11)), (none, (.load none (.tmp 11), .some 12)), (none, (.cvt .u8 (.tmp 12), .some 13)), (none, (.bsl 1 [.tmp 13], .some 14)), (none, (.call (.func 140) [.tmp 10, .tmp 14], .some 15))] []) (.seq
  (.reg [(none, (.mov (.tmp 3), .some 16)), (none, (.fadr 1 (.tmp 1), .some 17)), (none, (.load none (.tmp 17), .some 18)), (none, (.call (.func 160) [.tmp 16, .tmp 18], .some 19))] []) (.seq (.seq
  (.reg [(none, (.fadr 0 (.tmp 1), .some 20)), (none, (.load none (.tmp 20), .some 21)), (none, (.call (.func 145) [.tmp 21], .some 22))] []) (.cond (.tmp 22)
  (.reg [(none, (.mov (.tmp 3), .some 23)), (none, (.fadr 2 (.tmp 1), .some 24)), (none, (.load none (.tmp 24), .some 25)), (none, (.call (.func 173) [.tmp 23, .tmp 25], .some 26))] []) .skip)) (.seq
  (.reg [(none, (.mov (.tmp 3), .some 28)), (none, (.call (.func 55) [.tmp 28], .some 29)), (none, (.mov (.tmp 29), .some 27)), (none, (.ext (.tmp 27) 0, .some 30)), (none, (.ext (.tmp 27) 1, .some 31)), (none, (.mov (.tmp 30), .some 4)), (none, (.mov (.tmp 31), .some 5))] []) (.seq
  (.reg [(none, (.mov (.tmp 4), .some 32)), (none, (.mov (.tmp 32), .some 2))] []) .ret)))))))
theorem b139 : Try.f139.body.bind (compC Try.prog) = some c139 := by kernel_rfl
theorem r139 : compR Try.prog Try.f139 = .some [.tmp 2] := by kernel_rfl
theorem n139 : (Try.f139.name == "runtime.NumGoroutine") = false := by kernel_rfl
def c141 : C := .reg [(none, (.mov (.tmp 0), .some 6)), (none, (.mov (.tmp 1), .some 7)), (none, (.mov (.tmp 2), .some 8)), (none, (.call (.func 162) [.tmp 7, .tmp 8], .some 9)), (none, (.call (.func 140) [.tmp 6, .tmp 9], .some 10))] []
theorem b141 : Try.f141.body.bind (compC Try.prog) = some c141 := by kernel_rfl
theorem r141 : compR Try.prog Try.f141 = .some [] := by kernel_rfl
theorem n141 : (Try.f141.name == "runtime.NumGoroutine") = false := by kernel_rfl
def c172 : C := .seq
  (.reg [(none, (.mov (.const (.slice none 0 0)), .some 2))] []) (.seq
  (.reg [(none, (.mov (.const (.slice none 0 0)), .some 3))] []) (.seq (.block 0 (.loop (.seq (.seq
  (.reg [(none, (.mov (.tmp 0), .some 4)), (none, (.bin .geq (.tmp 4) (.const (.int .u64 128)), .some 5))] []) (.cond (.tmp 5) .skip (.exit 0))) (.block 1 (.seq
  (.reg [(none, (.mov (.tmp 3), .some 6)), (none, (.mov (.tmp 0), .some 7)), (none, (.cvt .u8 (.tmp 7), .some 8)), (none, (.bin .or (.tmp 8) (.const (.int .u8 128)), .some 9)), (none, (.bsl 1 [.tmp 9], .some 10)), (none, (.app 1 1 (.tmp 6) (.tmp 10), .some 11)), (none, (.mov (.tmp 11), .some 3))] [])
  (.reg [(none, (.mov (.tmp 0), .some 12)), (none, (.bin .shr (.tmp 12) (.const (.int .u64 7)), .some 13)), (none, (.mov (.tmp 13), .some 0))] [])))))) (.seq
  (.reg [(none, (.mov (.tmp 3), .some 14)), (none, (.mov (.tmp 0), .some 15)), (none, (.cvt .u8 (.tmp 15), .some 16)), (none, (.bsl 1 [.tmp 16], .some 17)), (none, (.app 1 1 (.tmp 14) (.tmp 17), .some 18)), (none, (.mov (.tmp 18), .some 2))] []) .ret)))
theorem b172 : Try.f172.body.bind (compC Try.prog) = some c172 := by kernel_rfl
theorem r172 : compR Try.prog Try.f172 = .some [.tmp 2] := by kernel_rfl
theorem n172 : (Try.f172.name == "runtime.NumGoroutine") = false := by kernel_rfl
def c173 : C := .reg [(none, (.mov (.tmp 0), .some 4)), (none, (.mov (.tmp 1), .some 5)), (none, (.mov (.tmp 1), .some 6)), (none, (.call (.func 144) [.tmp 6], .some 7)), (none, (.call (.func 186) [.tmp 4, .tmp 5, .tmp 7], .some 8))] []
theorem b173 : Try.f173.body.bind (compC Try.prog) = some c173 := by kernel_rfl
theorem r173 : compR Try.prog Try.f173 = .some [] := by kernel_rfl
theorem n173 : (Try.f173.name == "runtime.NumGoroutine") = false := by kernel_rfl
def c175 : C := .seq
  (.reg [(none, (.mov (.const (.int .u32 0)), .some 2))] []) (.seq
  (.reg [(none, (.mov (.tmp 0), .some 3)), (none, (.un .xor (.tmp 3), .some 4)), (none, (.mov (.tmp 4), .some 2))] []) .ret)
theorem b175 : Try.f175.body.bind (compC Try.prog) = some c175 := by kernel_rfl
theorem r175 : compR Try.prog Try.f175 = .some [.tmp 2] := by kernel_rfl
theorem n175 : (Try.f175.name == "runtime.NumGoroutine") = false := by kernel_rfl
def c176 : C := .seq
  (.reg [(none, (.mov (.const (.int .u32 0)), .some 4))] []) (.seq
  (.reg [(none, (.call (.func 188) [], .some 8)), (none, (.new [.int .u32 0, .int .u32 0, .int .u32 0, .int .u32 0, .int .u32 0, .int .u32 0, .int .u32 0, .int .u32 0, .int .u32 0, .int .u32 0, .int .u32 0, .int .u32 0, .int .u32 0, .int .u32 0, .int .u32 0, .int .u32 0], .some 5)), (none, (.store 16 (.tmp 5) (.tmp 8), none))] []) (.seq (.seq
  (.reg [(none, (.mov (.tmp 1), .some 9)), (none, (.len .false (.tmp 9), .some 10)), (none, (.mov (.const (.int .i64 0)), .some 11))] []) (.block 0 (.loop (.seq
  (.reg [(none, (.bin .lss (.tmp 11) (.tmp 10), .some 12))] []) (.seq (.cond (.tmp 12) .skip (.exit 0)) (.seq (.block 1 (.seq
  (.reg [(none, (.iadr 1 (.tmp 9) (.tmp 11), .some 13)), (none, (.load none (.tmp 13), .some 14)), (none, (.mov (.tmp 14), .some 7))] []) (.seq
  (.reg [(none, (.mov (.tmp 0), .some 15)), (none, (.mov (.tmp 7), .some 16)), (none, (.cvt .u32 (.tmp 16), .some 17)), (none, (.bin .xor (.tmp 15) (.tmp 17), .some 18)), (none, (.mov (.tmp 18), .some 0))] []) (.seq
  (.reg [(none, (.mov (.tmp 0), .some 19)), (none, (.bin .shr (.tmp 19) (.const (.int .u64 4)), .some 20)), (none, (.mov (.tmp 0), .some 21)), (none, (.bin .and (.tmp 21) (.const (.int .u32 15)), .some 22)), (none, (.aadr 16 1 (.tmp 5) (.tmp 22), .some 23)), (none, (.load none (.tmp 23), .some 24)), (none, (.bin .xor (.tmp 20) (.tmp 24), .some 25)), (none, (.mov (.tmp 25), .some 0))] [])
  (.reg [(none, (.mov (.tmp 0), .some 26)), (none, (.bin .shr (.tmp 26) (.const (.int .u64 4)), .some 27)), (none, (.mov (.tmp 0), .some 28)), (none, (.bin .and (.tmp 28) (.const (.int .u32 15)), .some 29)), (none, (.aadr 16 1 (.tmp 5) (.tmp 29), .some 30)), (none, (.load none (.tmp 30), .some 31)), (none, (.bin .xor (.tmp 27) (.tmp 31), .some 32)), (none, (.mov (.tmp 32), .some 0))] [])))))
  (.reg [(none, (.bin .add (.tmp 11) (.const (.int .i64 1)), .some 33)), (none, (.mov (.tmp 33), .some 11))] []))))))) (.seq
  (.reg [(none, (.mov (.tmp 0), .some 34)), (none, (.mov (.tmp 34), .some 4))] []) .ret)))
theorem b176 : Try.f176.body.bind (compC Try.prog) = some c176 := by kernel_rfl
theorem r176 : compR Try.prog Try.f176 = .some [.tmp 4] := by kernel_rfl
theorem n176 : (Try.f176.name == "runtime.NumGoroutine") = false := by kernel_rfl
def c178 : C := .seq
  (.reg [(none, (.mov (.const (.slice none 0 0)), .some 4))] []) (.seq (.seq
  (.reg [(none, (.mov (.tmp 0), .some 5)), (none, (.mov (.tmp 1), .some 6)), (none, (.call (.func 78) [.tmp 5, .tmp 6], .some 7)), (none, (.un .not (.tmp 7), .some 8))] []) (.cond (.tmp 8) (.seq
  (.reg [(none, (.mov (.const (.slice none 0 0)), .some 4))] []) .ret) .skip)) (.seq
  (.reg [(none, (.bsl 1 [], .some 9)), (none, (.mov (.tmp 0), .some 10)), (none, (.nilc (.tmp 10), .some 11)), (none, (.fadr 0 (.tmp 11), .some 12)), (none, (.load none (.tmp 12), .some 13)), (none, (.mov (.tmp 0), .some 14)), (none, (.nilc (.tmp 14), .some 15)), (none, (.fadr 1 (.tmp 15), .some 16)), (none, (.load none (.tmp 16), .some 17)), (none, (.mov (.tmp 1), .some 18)), (none, (.bin .sub (.tmp 17) (.tmp 18), .some 19)), (none, (.mov (.tmp 0), .some 20)), (none, (.nilc (.tmp 20), .some 21)), (none, (.fadr 1 (.tmp 21), .some 22)), (none, (.load none (.tmp 22), .some 23)), (none, (.slice 1 (.tmp 13) (.some (.tmp 19)) (.some (.tmp 23)) none, .some 24)), (none, (.app 1 1 (.tmp 9) (.tmp 24), .some 25)), (none, (.mov (.tmp 25), .some 4))] [(4, 8), (4, 14), (8, 14)]) .ret))
theorem b178 : Try.f178.body.bind (compC Try.prog) = some c178 := by kernel_rfl
theorem r178 : compR Try.prog Try.f178 = .some [.tmp 4] := by kernel_rfl
theorem n178 : (Try.f178.name == "runtime.NumGoroutine") = false := by kernel_rfl
end Go.Proofs.Ytkhnfleejgfhgaa
