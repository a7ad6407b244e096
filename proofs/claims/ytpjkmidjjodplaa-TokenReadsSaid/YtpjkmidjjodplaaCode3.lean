/-
  The codes of the seat's functions over abstract values, each shown to be its function's own (by program: wip/tools/codes.py).
-/
import Derived.Test.YtpjkmidjjodplaaA2
import Derived.Test.YtpjkmidjjodplaaProg
import Derived.KernelRfl
namespace Go.Proofs.Ytpjkmidjjodplaa
def c26 : C := .seq
  (.reg [(none, (.box (.tmp 0), .some 1)), (none, (.mov (.const (.bool .false)), .some 2))] []) (.seq
  (.reg [(none, (.fadr 0 (.tmp 1), .some 3)), (none, (.load none (.tmp 3), .some 4)), (none, (.len .false (.tmp 4), .some 5)), (none, (.bin .eql (.tmp 5) (.const (.int .i64 0)), .some 6)), (none, (.mov (.tmp 6), .some 7)), (.some (7, .true), (.fadr 1 (.tmp 1), .some 8)), (.some (7, .true), (.load none (.tmp 8), .some 9)), (.some (7, .true), (.bin .geq (.tmp 9) (.const (.int .i64 1)), .some 10)), (none, (.pick (.tmp 7) (.tmp 10) (.const (.bool .false)), .some 11)), (none, (.mov (.tmp 11), .some 12)), (.some (12, .true), (.fadr 1 (.tmp 1), .some 13)), (.some (12, .true), (.load none (.tmp 13), .some 14)), (.some (12, .true), (.bin .leq (.tmp 14) (.const (.int .i64 65536)), .some 15)), (none, (.pick (.tmp 12) (.tmp 15) (.const (.bool .false)), .some 16)), (none, (.mov (.tmp 16), .some 17)), (.some (17, .true), (.fadr 2 (.tmp 1), .some 18)), (.some (17, .true), (.load none (.tmp 18), .some 19)), (.some (17, .true), (.bin .geq (.tmp 19) (.const (.int .i64 4)), .some 20)), (none, (.pick (.tmp 17) (.tmp 20) (.const (.bool .false)), .some 21)), (none, (.mov (.tmp 21), .some 22)), (.some (22, .true), (.fadr 2 (.tmp 1), .some 23)), (.some (22, .true), (.load none (.tmp 23), .some 24)), (.some (22, .true), (.bin .leq (.tmp 24) (.const (.int .i64 1048576)), .some 25)), (none, (.pick (.tmp 22) (.tmp 25) (.const (.bool .false)), .some 26)), (none, (.mov (.tmp 26), .some 2))] []) .ret)
theorem b26 : Try.f26.body.bind (compC Try.prog) = some c26 := by kernel_rfl
theorem r26 : compR Try.prog Try.f26 = .some [.tmp 2] := by kernel_rfl
theorem n26 : (Try.f26.name == "runtime.NumGoroutine") = false := by kernel_rfl
def c32 : C := .seq
  (.reg [(none, (.mov (.const (.slice none 0 0)), .some 2)), (none, (.mov (.const (.int .i64 0)), .some 3))] []) (.seq (.seq
  (.reg [(none, (.mov (.tmp 0), .some 5)), (none, (.call (.func 76) [.tmp 5], .some 6)), (none, (.mov (.tmp 6), .some 4))] []) (.seq
  (.reg [(none, (.mov (.tmp 4), .some 7)), (none, (.bin .neq (.tmp 7) (.const (.int .i64 0)), .some 8))] []) (.cond (.tmp 8) (.seq
  (.reg [(none, (.mov (.tmp 4), .some 9)), (none, (.mov (.const (.slice none 0 0)), .some 2)), (none, (.mov (.tmp 9), .some 3))] []) .ret) .skip))) (.seq
  (.reg [(none, (.bsl 1 [], .some 10)), (none, (.mov (.tmp 0), .some 11)), (none, (.nilc (.tmp 11), .some 12)), (none, (.fadr 1 (.tmp 12), .some 13)), (none, (.load none (.tmp 13), .some 14)), (none, (.app 1 1 (.tmp 10) (.tmp 14), .some 15)), (none, (.mov (.tmp 15), .some 2)), (none, (.mov (.const (.int .i64 0)), .some 3))] []) .ret))
theorem b32 : Try.f32.body.bind (compC Try.prog) = some c32 := by kernel_rfl
theorem r32 : compR Try.prog Try.f32 = .some [.tmp 2, .tmp 3] := by kernel_rfl
theorem n32 : (Try.f32.name == "runtime.NumGoroutine") = false := by kernel_rfl
def c38 : C := .seq
  (.reg [(none, (.box (.tmp 0), .some 1)), (none, (.mov (.const (.bool .false)), .some 2))] []) (.seq
  (.reg [(none, (.fadr 0 (.tmp 1), .some 4)), (none, (.load none (.tmp 4), .some 5)), (none, (.len .false (.tmp 5), .some 6)), (none, (.mov (.tmp 6), .some 3))] []) (.seq (.block 0 (.seq (.block 3 (.block 2 (.seq (.block 1 (.seq (.seq (.seq
  (.reg [(none, (.fadr 1 (.tmp 1), .some 8)), (none, (.load none (.tmp 8), .some 9)), (none, (.bin .eql (.tmp 9) (.const (.int .i64 0)), .some 10)), (none, (.mov (.tmp 10), .some 7))] []) (.cond (.tmp 7) (.exit 1) .skip)) (.seq (.seq
  (.reg [(none, (.mov (.tmp 3), .some 12)), (none, (.bin .gtr (.tmp 12) (.const (.int .i64 0)), .some 13)), (none, (.mov (.tmp 13), .some 11))] []) (.cond (.tmp 11) (.exit 2) .skip)) (.seq
  (.reg [(none, (.fadr 1 (.tmp 1), .some 15)), (none, (.load none (.tmp 15), .some 16)), (none, (.bin .lss (.tmp 16) (.const (.int .i64 0)), .some 17)), (none, (.mov (.tmp 17), .some 18)), (.some (18, .false), (.fadr 1 (.tmp 1), .some 19)), (.some (18, .false), (.load none (.tmp 19), .some 20)), (.some (18, .false), (.bin .gtr (.tmp 20) (.const (.int .i64 65536)), .some 21)), (none, (.pick (.tmp 18) (.const (.bool .true)) (.tmp 21), .some 22)), (none, (.mov (.tmp 22), .some 14))] []) (.cond (.tmp 14) (.exit 3) .skip)))) (.exit 0))) (.seq (.seq
  (.reg [(none, (.fadr 2 (.tmp 1), .some 23)), (none, (.load none (.tmp 23), .some 24)), (none, (.bin .eql (.tmp 24) (.const (.int .i64 0)), .some 25)), (none, (.mov (.tmp 25), .some 26)), (.some (26, .true), (.mov (.tmp 3), .some 27)), (.some (26, .true), (.bin .geq (.tmp 27) (.const (.int .i64 1)), .some 28)), (none, (.pick (.tmp 26) (.tmp 28) (.const (.bool .false)), .some 29)), (none, (.mov (.tmp 29), .some 30)), (.some (30, .true), (.mov (.tmp 3), .some 31)), (.some (30, .true), (.bin .leq (.tmp 31) (.const (.int .i64 1048576)), .some 32)), (none, (.pick (.tmp 30) (.tmp 32) (.const (.bool .false)), .some 33)), (none, (.mov (.tmp 33), .some 2))] []) .ret) (.exit 0))))) (.seq (.seq
  (.reg [(none, (.mov (.const (.bool .false)), .some 2))] []) .ret) (.exit 0)))) (.seq
  (.reg [(none, (.fadr 2 (.tmp 1), .some 34)), (none, (.load none (.tmp 34), .some 35)), (none, (.bin .geq (.tmp 35) (.const (.int .i64 4)), .some 36)), (none, (.mov (.tmp 36), .some 37)), (.some (37, .true), (.fadr 2 (.tmp 1), .some 38)), (.some (37, .true), (.load none (.tmp 38), .some 39)), (.some (37, .true), (.bin .leq (.tmp 39) (.const (.int .i64 1048576)), .some 40)), (none, (.pick (.tmp 37) (.tmp 40) (.const (.bool .false)), .some 41)), (none, (.mov (.tmp 41), .some 2))] []) .ret)))
theorem b38 : Try.f38.body.bind (compC Try.prog) = some c38 := by kernel_rfl
theorem r38 : compR Try.prog Try.f38 = .some [.tmp 2] := by kernel_rfl
theorem n38 : (Try.f38.name == "runtime.NumGoroutine") = false := by kernel_rfl
def c41 : C := .seq
  (.reg [(none, (.box (.tmp 1), .some 3))] []) (.block 0 (.seq
  (.reg [(none, (.load (.some 3) (.tmp 3), .some 19)), (none, (.call (.func 38) [.tmp 19], .some 20)), (none, (.un .not (.tmp 20), .some 21)), (none, (.mov (.tmp 21), .some 18))] []) (.cond (.tmp 18)
  (.reg [(none, (.mov (.tmp 0), .some 22)), (none, (.call (.func 78) [.tmp 22, .const (.int .i64 3)], .some 23))] []) (.seq
  (.reg [(none, (.fadr 1 (.tmp 3), .some 25)), (none, (.load none (.tmp 25), .some 26)), (none, (.bin .eql (.tmp 26) (.const (.int .i64 0)), .some 27)), (none, (.mov (.tmp 27), .some 24))] []) (.cond (.tmp 24) (.seq
  (.reg [(none, (.mov (.tmp 0), .some 28)), (none, (.fadr 0 (.tmp 3), .some 29)), (none, (.load none (.tmp 29), .some 30)), (none, (.len .false (.tmp 30), .some 31)), (none, (.bin .sub (.tmp 31) (.const (.int .i64 1)), .some 32)), (none, (.cvt .u64 (.tmp 32), .some 33)), (none, (.bin .mul (.tmp 33) (.const (.int .u64 2)), .some 34)), (none, (.call (.func 86) [.tmp 28, .tmp 34], .some 35))] [])
  (.reg [(none, (.mov (.tmp 0), .some 36)), (none, (.fadr 0 (.tmp 3), .some 37)), (none, (.load none (.tmp 37), .some 38)), (none, (.call (.func 30) [.tmp 36, .tmp 38], .some 39))] [])) (.seq
  (.reg [(none, (.mov (.tmp 0), .some 4)), (none, (.fadr 2 (.tmp 3), .some 5)), (none, (.load none (.tmp 5), .some 6)), (none, (.bin .sub (.tmp 6) (.const (.int .i64 4)), .some 7)), (none, (.cvt .u64 (.tmp 7), .some 8)), (none, (.bin .mul (.tmp 8) (.const (.int .u64 2)), .some 9)), (none, (.bin .add (.tmp 9) (.const (.int .u64 1)), .some 10)), (none, (.call (.func 86) [.tmp 4, .tmp 10], .some 11))] [])
  (.reg [(none, (.mov (.tmp 0), .some 12)), (none, (.fadr 1 (.tmp 3), .some 13)), (none, (.load none (.tmp 13), .some 14)), (none, (.bin .sub (.tmp 14) (.const (.int .i64 1)), .some 15)), (none, (.cvt .u64 (.tmp 15), .some 16)), (none, (.call (.func 86) [.tmp 12, .tmp 16], .some 17))] [])))))))
theorem b41 : Try.f41.body.bind (compC Try.prog) = some c41 := by kernel_rfl
theorem r41 : compR Try.prog Try.f41 = .some [] := by kernel_rfl
theorem n41 : (Try.f41.name == "runtime.NumGoroutine") = false := by kernel_rfl
def c59 : C := .seq
  (.reg [(none, (.mov (.const (.int .i64 0)), .some 2))] []) (.seq
  (.reg [(none, (.mov (.tmp 0), .some 5)), (none, (.call (.func 57) [.tmp 5], .some 6)), (none, (.mov (.tmp 6), .some 3))] []) (.seq
  (.reg [(none, (.mov (.tmp 0), .some 7)), (none, (.call (.func 99) [.tmp 7], .some 8)), (none, (.mov (.tmp 8), .some 4))] []) (.seq (.seq
  (.reg [(none, (.mov (.tmp 4), .some 9)), (none, (.bin .geq (.tmp 9) (.const (.int .u64 65536)), .some 10))] []) (.cond (.tmp 10)
  (.reg [(none, (.mov (.tmp 0), .some 11)), (none, (.mov (.tmp 3), .some 12)), (none, (.call (.func 92) [.tmp 11, .const (.int .i64 10), .tmp 12], .some 13))] []) .skip)) (.seq (.seq
  (.reg [(none, (.mov (.tmp 0), .some 14)), (none, (.call (.func 60) [.tmp 14], .some 15)), (none, (.un .not (.tmp 15), .some 16))] []) (.cond (.tmp 16) (.seq
  (.reg [(none, (.mov (.const (.int .i64 0)), .some 2))] []) .ret) .skip)) (.seq
  (.reg [(none, (.mov (.tmp 4), .some 17)), (none, (.cvt .i64 (.tmp 17), .some 18)), (none, (.bin .add (.tmp 18) (.const (.int .i64 1)), .some 19)), (none, (.mov (.tmp 19), .some 2))] []) .ret)))))
theorem b59 : Try.f59.body.bind (compC Try.prog) = some c59 := by kernel_rfl
theorem r59 : compR Try.prog Try.f59 = .some [.tmp 2] := by kernel_rfl
theorem n59 : (Try.f59.name == "runtime.NumGoroutine") = false := by kernel_rfl
def c73 : C := .seq
  (.reg [(none, (.new [.int .i64 0, .int .i64 0], .some 4))] []) (.seq
  (.reg [(none, (.build [.int .i64 0, .int .i64 0] [], .some 6)), (none, (.new [.int .i64 0, .int .i64 0], .some 5)), (none, (.store 2 (.tmp 5) (.tmp 6), none))] []) (.seq (.seq
  (.reg [(none, (.mov (.tmp 0), .some 7)), (none, (.bin .neq (.tmp 7) (.const (.int .i64 0)), .some 8))] []) (.cond (.tmp 8)
  (.reg [(none, (.mov (.tmp 0), .some 9)), (none, (.mov (.tmp 1), .some 10)), (none, (.fadr 0 (.tmp 5), .some 11)), (none, (.store 1 (.tmp 11) (.tmp 9), none)), (none, (.fadr 1 (.tmp 5), .some 12)), (none, (.store 1 (.tmp 12) (.tmp 10), none))] []) .skip)) (.seq
  (.reg [(none, (.load (.some 2) (.tmp 5), .some 13)), (none, (.store 2 (.tmp 4) (.tmp 13), none))] []) .ret)))
theorem b73 : Try.f73.body.bind (compC Try.prog) = some c73 := by kernel_rfl
theorem r73 : compR Try.prog Try.f73 = .some [.cell 4 (.some 2)] := by kernel_rfl
theorem n73 : (Try.f73.name == "runtime.NumGoroutine") = false := by kernel_rfl
def c76 : C := .seq
  (.reg [(none, (.mov (.const (.int .i64 0)), .some 2))] []) (.seq (.seq
  (.reg [(none, (.mov (.tmp 0), .some 3)), (none, (.eqp .false (.tmp 3) (.const (.pointer none)), .some 4))] []) (.cond (.tmp 4) (.seq
  (.reg [(none, (.mov (.const (.int .i64 19)), .some 2))] []) .ret) .skip)) (.seq
  (.reg [(none, (.mov (.tmp 0), .some 5)), (none, (.nilc (.tmp 5), .some 6)), (none, (.fadr 2 (.tmp 6), .some 7)), (none, (.load none (.tmp 7), .some 8)), (none, (.mov (.tmp 8), .some 2))] []) .ret))
theorem b76 : Try.f76.body.bind (compC Try.prog) = some c76 := by kernel_rfl
theorem r76 : compR Try.prog Try.f76 = .some [.tmp 2] := by kernel_rfl
theorem n76 : (Try.f76.name == "runtime.NumGoroutine") = false := by kernel_rfl
def c92 : C := .seq
  (.reg [(none, (.mov (.tmp 0), .some 6)), (none, (.call (.func 60) [.tmp 6], .some 7))] []) (.cond (.tmp 7)
  (.reg [(none, (.mov (.tmp 0), .some 8)), (none, (.mov (.tmp 1), .some 9)), (none, (.mov (.tmp 2), .some 10)), (none, (.call (.func 71) [.tmp 9, .tmp 10], .some 11)), (none, (.nilc (.tmp 8), .some 12)), (none, (.fadr 2 (.tmp 12), .some 13)), (none, (.store 2 (.tmp 13) (.tmp 11), none))] []) .skip)
theorem b92 : Try.f92.body.bind (compC Try.prog) = some c92 := by kernel_rfl
theorem r92 : compR Try.prog Try.f92 = .some [] := by kernel_rfl
theorem n92 : (Try.f92.name == "runtime.NumGoroutine") = false := by kernel_rfl
def c95 : C := .seq
  (.reg [(none, (.box (.tmp 0), .some 1)), (none, (.new [.slice none 0 0, .int .i64 0, .int .i64 0, .int .i64 0], .some 2)), (none, (.mov (.const (.int .u64 0)), .some 3))] []) (.seq (.seq
  (.reg [(none, (.fadr 2 (.tmp 1), .some 7)), (none, (.fadr 0 (.tmp 7), .some 8)), (none, (.load none (.tmp 8), .some 9)), (none, (.bin .neq (.tmp 9) (.const (.int .i64 0)), .some 10))] []) (.cond (.tmp 10) (.seq
  (.reg [(none, (.load (.some 4) (.tmp 1), .some 11)), (none, (.store 4 (.tmp 2) (.tmp 11), none)), (none, (.mov (.const (.int .u64 0)), .some 3))] []) .ret) .skip)) (.seq
  (.reg [(none, (.fadr 0 (.tmp 1), .some 13)), (none, (.load none (.tmp 13), .some 14)), (none, (.fadr 1 (.tmp 1), .some 15)), (none, (.load none (.tmp 15), .some 16)), (none, (.slice 1 (.tmp 14) (.some (.tmp 16)) none none, .some 17)), (none, (.call (.func 116) [.tmp 17], .some 18)), (none, (.mov (.tmp 18), .some 12)), (none, (.ext (.tmp 12) 0, .some 19)), (none, (.ext (.tmp 12) 1, .some 20)), (none, (.ext (.tmp 12) 2, .some 21)), (none, (.new [.int .i64 0, .int .i64 0], .some 6)), (none, (.mov (.tmp 19), .some 4)), (none, (.mov (.tmp 20), .some 5)), (none, (.store 2 (.tmp 6) (.tmp 21), none))] []) (.seq (.seq
  (.reg [(none, (.fadr 0 (.tmp 6), .some 22)), (none, (.load none (.tmp 22), .some 23)), (none, (.bin .eql (.tmp 23) (.const (.int .i64 0)), .some 24))] []) (.cond (.tmp 24) (.seq
  (.reg [(none, (.fadr 1 (.tmp 1), .some 25)), (none, (.load none (.tmp 25), .some 26)), (none, (.mov (.tmp 5), .some 27)), (none, (.bin .add (.tmp 26) (.tmp 27), .some 28)), (none, (.fadr 1 (.tmp 1), .some 29)), (none, (.store 1 (.tmp 29) (.tmp 28), none))] []) (.seq
  (.reg [(none, (.load (.some 4) (.tmp 1), .some 30)), (none, (.mov (.tmp 4), .some 31)), (none, (.store 4 (.tmp 2) (.tmp 30), none)), (none, (.mov (.tmp 31), .some 3))] []) .ret)) .skip)) (.seq (.seq
  (.reg [(none, (.fadr 0 (.tmp 6), .some 32)), (none, (.load none (.tmp 32), .some 33)), (none, (.bin .eql (.tmp 33) (.const (.int .i64 1)), .some 34))] []) (.cond (.tmp 34)
  (.reg [(none, (.fadr 0 (.tmp 1), .some 35)), (none, (.load none (.tmp 35), .some 36)), (none, (.len .false (.tmp 36), .some 37)), (none, (.fadr 1 (.tmp 1), .some 38)), (none, (.store 1 (.tmp 38) (.tmp 37), none))] [])
  (.reg [(none, (.fadr 1 (.tmp 1), .some 39)), (none, (.load none (.tmp 39), .some 40)), (none, (.fadr 1 (.tmp 6), .some 41)), (none, (.load none (.tmp 41), .some 42)), (none, (.bin .add (.tmp 40) (.tmp 42), .some 43)), (none, (.bin .add (.tmp 43) (.const (.int .i64 1)), .some 44)), (none, (.fadr 1 (.tmp 1), .some 45)), (none, (.store 1 (.tmp 45) (.tmp 44), none))] []))) (.seq
  (.reg [(none, (.fadr 0 (.tmp 6), .some 46)), (none, (.load none (.tmp 46), .some 47)), (none, (.fadr 1 (.tmp 1), .some 48)), (none, (.load none (.tmp 48), .some 49)), (none, (.call (.func 73) [.tmp 47, .tmp 49], .some 50)), (none, (.fadr 2 (.tmp 1), .some 51)), (none, (.store 2 (.tmp 51) (.tmp 50), none))] []) (.seq (.seq
  (.reg [(none, (.fadr 0 (.tmp 6), .some 52)), (none, (.load none (.tmp 52), .some 53)), (none, (.bin .neq (.tmp 53) (.const (.int .i64 1)), .some 54))] []) (.cond (.tmp 54)
  (.reg [(none, (.fadr 1 (.tmp 1), .some 55)), (none, (.load none (.tmp 55), .some 56)), (none, (.bin .sub (.tmp 56) (.const (.int .i64 1)), .some 57)), (none, (.fadr 2 (.tmp 1), .some 58)), (none, (.fadr 1 (.tmp 58), .some 59)), (none, (.store 1 (.tmp 59) (.tmp 57), none))] []) .skip)) (.seq
  (.reg [(none, (.load (.some 4) (.tmp 1), .some 60)), (none, (.store 4 (.tmp 2) (.tmp 60), none)), (none, (.mov (.const (.int .u64 0)), .some 3))] []) .ret)))))))
theorem b95 : Try.f95.body.bind (compC Try.prog) = some c95 := by kernel_rfl
theorem r95 : compR Try.prog Try.f95 = .some [.cell 2 (.some 4), .tmp 3] := by kernel_rfl
theorem n95 : (Try.f95.name == "runtime.NumGoroutine") = false := by kernel_rfl
def c99 : C := .seq
  (.reg [(none, (.mov (.const (.int .u64 0)), .some 2))] []) (.scope (.seq
  (.reg [(none, (.mov (.const (.int .u64 0)), .some 3))] []) (.seq
  (.reg [(none, (.mov (.const (.int .u8 0)), .some 4))] []) (.seq
  (.reg [(none, (.mov (.tmp 0), .some 7)), (none, (.call (.func 57) [.tmp 7], .some 8)), (none, (.mov (.const (.int .i64 0)), .some 5)), (none, (.mov (.tmp 8), .some 6))] []) (.seq (.label 0) (.seq
  (.reg [(none, (.mov (.tmp 0), .some 9)), (none, (.call (.func 117) [.tmp 9], .some 10)), (none, (.mov (.tmp 10), .some 4))] []) (.seq (.block 0 (.seq
  (.reg [(none, (.mov (.tmp 0), .some 12)), (none, (.call (.func 60) [.tmp 12], .some 13)), (none, (.un .not (.tmp 13), .some 14)), (none, (.mov (.tmp 14), .some 11))] []) (.cond (.tmp 11) (.seq
  (.reg [(none, (.mov (.const (.int .u64 0)), .some 2))] []) .ret) (.seq
  (.reg [(none, (.mov (.tmp 5), .some 16)), (none, (.bin .eql (.tmp 16) (.const (.int .i64 63)), .some 17)), (none, (.mov (.tmp 17), .some 18)), (.some (18, .true), (.mov (.tmp 4), .some 19)), (.some (18, .true), (.bin .gtr (.tmp 19) (.const (.int .u8 1)), .some 20)), (none, (.pick (.tmp 18) (.tmp 20) (.const (.bool .false)), .some 21)), (none, (.mov (.tmp 21), .some 15))] []) (.cond (.tmp 15) (.seq
  (.reg [(none, (.mov (.tmp 0), .some 22)), (none, (.mov (.tmp 0), .some 23)), (none, (.call (.func 57) [.tmp 23], .some 24)), (none, (.bin .sub (.tmp 24) (.const (.int .i64 1)), .some 25)), (none, (.call (.func 92) [.tmp 22, .const (.int .i64 5), .tmp 25], .some 26))] []) (.seq
  (.reg [(none, (.mov (.const (.int .u64 0)), .some 2))] []) .ret)) (.seq
  (.reg [(none, (.mov (.tmp 4), .some 28)), (none, (.bin .eql (.tmp 28) (.const (.int .u8 0)), .some 29)), (none, (.mov (.tmp 29), .some 30)), (.some (30, .true), (.mov (.tmp 0), .some 31)), (.some (30, .true), (.call (.func 57) [.tmp 31], .some 32)), (.some (30, .true), (.bin .sub (.tmp 32) (.const (.int .i64 1)), .some 33)), (.some (30, .true), (.mov (.tmp 6), .some 34)), (.some (30, .true), (.bin .gtr (.tmp 33) (.tmp 34), .some 35)), (none, (.pick (.tmp 30) (.tmp 35) (.const (.bool .false)), .some 36)), (none, (.mov (.tmp 36), .some 27))] []) (.cond (.tmp 27) (.seq
  (.reg [(none, (.mov (.tmp 0), .some 37)), (none, (.mov (.tmp 0), .some 38)), (none, (.call (.func 57) [.tmp 38], .some 39)), (none, (.bin .sub (.tmp 39) (.const (.int .i64 1)), .some 40)), (none, (.call (.func 92) [.tmp 37, .const (.int .i64 4), .tmp 40], .some 41))] []) (.seq
  (.reg [(none, (.mov (.const (.int .u64 0)), .some 2))] []) .ret)) .skip))))))) (.seq
  (.reg [(none, (.mov (.tmp 3), .some 42)), (none, (.mov (.tmp 4), .some 43)), (none, (.bin .rem (.tmp 43) (.const (.int .u8 128)), .some 44)), (none, (.cvt .u64 (.tmp 44), .some 45)), (none, (.mov (.tmp 5), .some 46)), (none, (.bin .shl (.tmp 45) (.tmp 46), .some 47)), (none, (.bin .or (.tmp 42) (.tmp 47), .some 48)), (none, (.mov (.tmp 48), .some 3))] []) (.seq
  (.reg [(none, (.mov (.tmp 5), .some 49)), (none, (.bin .add (.tmp 49) (.const (.int .i64 7)), .some 50)), (none, (.mov (.tmp 50), .some 5))] []) (.seq (.seq
  (.reg [(none, (.mov (.tmp 4), .some 51)), (none, (.bin .geq (.tmp 51) (.const (.int .u8 128)), .some 52))] []) (.cond (.tmp 52) (.goto 0) .skip)) (.seq
  (.reg [(none, (.mov (.tmp 3), .some 53)), (none, (.mov (.tmp 53), .some 2))] []) .ret)))))))))))
theorem b99 : Try.f99.body.bind (compC Try.prog) = some c99 := by kernel_rfl
theorem r99 : compR Try.prog Try.f99 = .some [.tmp 2] := by kernel_rfl
theorem n99 : (Try.f99.name == "runtime.NumGoroutine") = false := by kernel_rfl
def c113 : C := .seq
  (.reg [(none, (.mov (.const (.int .i64 0)), .some 2))] []) (.seq
  (.reg [(none, (.mov (.const (.int .i64 1)), .some 3))] []) (.seq (.block 0 (.loop (.seq (.seq
  (.reg [(none, (.mov (.tmp 0), .some 4)), (none, (.bin .geq (.tmp 4) (.const (.int .u64 128)), .some 5))] []) (.cond (.tmp 5) .skip (.exit 0))) (.block 1 (.seq
  (.reg [(none, (.mov (.tmp 0), .some 6)), (none, (.bin .shr (.tmp 6) (.const (.int .u64 7)), .some 7)), (none, (.mov (.tmp 7), .some 0))] [])
  (.reg [(none, (.mov (.tmp 3), .some 8)), (none, (.bin .add (.tmp 8) (.const (.int .i64 1)), .some 9)), (none, (.mov (.tmp 9), .some 3))] [])))))) (.seq
  (.reg [(none, (.mov (.tmp 3), .some 10)), (none, (.mov (.tmp 10), .some 2))] []) .ret)))
theorem b113 : Try.f113.body.bind (compC Try.prog) = some c113 := by kernel_rfl
theorem r113 : compR Try.prog Try.f113 = .some [.tmp 2] := by kernel_rfl
theorem n113 : (Try.f113.name == "runtime.NumGoroutine") = false := by kernel_rfl
end Go.Proofs.Ytpjkmidjjodplaa
