/-
  The codes of the seat's functions over abstract values, each shown to be its function's own (by program: wip/tools/codes.py).
-/
import Derived.Test.YtkhnfleejgfhgaaA2
import Derived.Test.YtkhnfleejgfhgaaProg
import Derived.KernelRfl
namespace Go.Proofs.Ytkhnfleejgfhgaa
def c23 : C := .seq
  (.reg [(none, (.mov (.const (.bool .false)), .some 4))] []) (.seq
  (.reg [(none, (.mov (.tmp 0), .some 5)), (none, (.b2s (.tmp 5), .some 6)), (none, (.mov (.tmp 1), .some 7)), (none, (.b2s (.tmp 7), .some 8)), (none, (.bin .eql (.tmp 6) (.tmp 8), .some 9)), (none, (.mov (.tmp 9), .some 4))] []) .ret)
theorem b23 : Try.f23.body.bind (compC Try.prog) = some c23 := by kernel_rfl
theorem r23 : compR Try.prog Try.f23 = .some [.tmp 4] := by kernel_rfl
theorem n23 : (Try.f23.name == "runtime.NumGoroutine") = false := by kernel_rfl
def c73 : C := .seq
  (.reg [(none, (.mov (.const (.int .i64 0)), .some 2)), (none, (.new [.int .i64 0, .int .i64 0], .some 3))] []) (.seq
  (.reg [(none, (.mov (.tmp 0), .some 7)), (none, (.call (.func 44) [.tmp 7], .some 8)), (none, (.mov (.tmp 8), .some 4))] []) (.seq
  (.reg [(none, (.mov (.tmp 4), .some 9)), (none, (.call (.func 146) [.tmp 9], .some 10)), (none, (.mov (.tmp 10), .some 5))] []) (.seq (.seq
  (.reg [(none, (.mov (.tmp 4), .some 11)), (none, (.call (.func 48) [.tmp 11], .some 12)), (none, (.new [.int .i64 0, .int .i64 0], .some 6)), (none, (.store 2 (.tmp 6) (.tmp 12), none))] []) (.seq
  (.reg [(none, (.load (.some 2) (.tmp 6), .some 13)), (none, (.call (.func 102) [.tmp 13], .some 14)), (none, (.un .not (.tmp 14), .some 15))] []) (.cond (.tmp 15) (.seq
  (.reg [(none, (.load (.some 2) (.tmp 6), .some 16)), (none, (.mov (.const (.int .i64 0)), .some 2)), (none, (.store 2 (.tmp 3) (.tmp 16), none))] []) .ret) .skip))) (.seq
  (.reg [(none, (.mov (.tmp 5), .some 17)), (none, (.build [.int .i64 0, .int .i64 0] [], .some 18)), (none, (.mov (.tmp 17), .some 2)), (none, (.store 2 (.tmp 3) (.tmp 18), none))] []) .ret))))
theorem b73 : Try.f73.body.bind (compC Try.prog) = some c73 := by kernel_rfl
theorem r73 : compR Try.prog Try.f73 = .some [.tmp 2, .cell 3 (.some 2)] := by kernel_rfl
theorem n73 : (Try.f73.name == "runtime.NumGoroutine") = false := by kernel_rfl
def c74 : C := .seq
  (.reg [(none, (.box (.tmp 0), .some 1)), (none, (.mov (.const (.slice none 0 0)), .some 2))] []) (.seq
  (.reg [(none, (.fadr 0 (.tmp 1), .some 4)), (none, (.load none (.tmp 4), .some 5)), (none, (.cvt .u8 (.tmp 5), .some 6)), (none, (.bsl 1 [.const (.int .u8 84), .const (.int .u8 72), .const (.int .u8 79), .const (.int .u8 76), .tmp 6], .some 7)), (none, (.mov (.tmp 7), .some 3))] []) (.seq
  (.reg [(none, (.mov (.tmp 3), .some 8)), (none, (.fadr 1 (.tmp 1), .some 9)), (none, (.load none (.tmp 9), .some 10)), (none, (.call (.func 110) [.tmp 10], .some 11)), (none, (.app 1 1 (.tmp 8) (.tmp 11), .some 12)), (none, (.mov (.tmp 12), .some 3))] []) (.seq (.seq
  (.reg [(none, (.fadr 0 (.tmp 1), .some 13)), (none, (.load none (.tmp 13), .some 14)), (none, (.bin .eql (.tmp 14) (.const (.int .i64 1)), .some 15))] []) (.cond (.tmp 15)
  (.reg [(none, (.mov (.tmp 3), .some 16)), (none, (.fadr 2 (.tmp 1), .some 17)), (none, (.load none (.tmp 17), .some 18)), (none, (.call (.func 110) [.tmp 18], .some 19)), (none, (.app 1 1 (.tmp 16) (.tmp 19), .some 20)), (none, (.mov (.tmp 20), .some 3))] []) .skip)) (.seq
  (.reg [(none, (.mov (.tmp 3), .some 21)), (none, (.mov (.tmp 3), .some 22)), (none, (.call (.func 148) [.tmp 22], .some 23)), (none, (.cvt .u64 (.tmp 23), .some 24)), (none, (.call (.func 147) [.tmp 24, .const (.int .i64 4)], .some 25)), (none, (.app 1 1 (.tmp 21) (.tmp 25), .some 26)), (none, (.mov (.tmp 26), .some 2))] []) .ret))))
theorem b74 : Try.f74.body.bind (compC Try.prog) = some c74 := by kernel_rfl
theorem r74 : compR Try.prog Try.f74 = .some [.tmp 2] := by kernel_rfl
theorem n74 : (Try.f74.name == "runtime.NumGoroutine") = false := by kernel_rfl
def c76 : C := .seq
  (.reg [(none, (.box (.tmp 0), .some 1)), (none, (.new [.slice none 0 0, .int .i64 0, .int .i64 0, .int .i64 0], .some 2)), (none, (.new [.int .i64 0, .int .u64 0, .int .u64 0], .some 3))] []) (.seq
  (.reg [(none, (.load (.some 4) (.tmp 1), .some 10)), (none, (.call (.func 77) [.tmp 10], .some 11)), (none, (.mov (.tmp 11), .some 9)), (none, (.ext (.tmp 9) 0, .some 12)), (none, (.ext (.tmp 9) 1, .some 13)), (none, (.new [.slice none 0 0, .int .i64 0, .int .i64 0, .int .i64 0], .some 4)), (none, (.store 4 (.tmp 4) (.tmp 12), none)), (none, (.mov (.tmp 13), .some 5))] []) (.seq
  (.reg [(none, (.mov (.tmp 5), .some 14)), (none, (.build [.int .i64 0, .int .u64 0, .int .u64 0] [(0, (1, .tmp 14))], .some 15)), (none, (.new [.int .i64 0, .int .u64 0, .int .u64 0], .some 6)), (none, (.store 3 (.tmp 6) (.tmp 15), none))] []) (.seq
  (.reg [(none, (.load (.some 4) (.tmp 4), .some 17)), (none, (.call (.func 105) [.tmp 17, .const (.int .i64 1)], .some 18)), (none, (.mov (.tmp 18), .some 16)), (none, (.ext (.tmp 16) 0, .some 19)), (none, (.ext (.tmp 16) 1, .some 20)), (none, (.store 4 (.tmp 4) (.tmp 19), none)), (none, (.fadr 1 (.tmp 6), .some 21)), (none, (.store 1 (.tmp 21) (.tmp 20), none))] []) (.seq (.seq
  (.reg [(none, (.mov (.tmp 5), .some 22)), (none, (.bin .eql (.tmp 22) (.const (.int .i64 1)), .some 23))] []) (.cond (.tmp 23)
  (.reg [(none, (.load (.some 4) (.tmp 4), .some 25)), (none, (.call (.func 105) [.tmp 25, .const (.int .i64 2)], .some 26)), (none, (.mov (.tmp 26), .some 24)), (none, (.ext (.tmp 24) 0, .some 27)), (none, (.ext (.tmp 24) 1, .some 28)), (none, (.store 4 (.tmp 4) (.tmp 27), none)), (none, (.fadr 2 (.tmp 6), .some 29)), (none, (.store 1 (.tmp 29) (.tmp 28), none))] []) .skip)) (.seq
  (.reg [(none, (.load (.some 4) (.tmp 4), .some 31)), (none, (.call (.func 149) [.tmp 31, .const (.int .i64 4)], .some 32)), (none, (.mov (.tmp 32), .some 30)), (none, (.ext (.tmp 30) 0, .some 33)), (none, (.ext (.tmp 30) 1, .some 34)), (none, (.new [.slice none 0 0, .int .i64 0, .int .i64 0, .int .i64 0], .some 7)), (none, (.store 4 (.tmp 7) (.tmp 33), none)), (none, (.mov (.tmp 34), .some 8))] []) (.seq (.seq
  (.reg [(none, (.fadr 2 (.tmp 7), .some 35)), (none, (.fadr 0 (.tmp 35), .some 36)), (none, (.load none (.tmp 36), .some 37)), (none, (.bin .eql (.tmp 37) (.const (.int .i64 0)), .some 38)), (none, (.mov (.tmp 38), .some 39)), (.some (39, .true), (.mov (.tmp 8), .some 40)), (.some (39, .true), (.fadr 0 (.tmp 1), .some 41)), (.some (39, .true), (.load none (.tmp 41), .some 42)), (.some (39, .true), (.fadr 1 (.tmp 1), .some 43)), (.some (39, .true), (.load none (.tmp 43), .some 44)), (.some (39, .true), (.fadr 1 (.tmp 4), .some 45)), (.some (39, .true), (.load none (.tmp 45), .some 46)), (.some (39, .true), (.slice 1 (.tmp 42) (.some (.tmp 44)) (.some (.tmp 46)) none, .some 47)), (.some (39, .true), (.call (.func 148) [.tmp 47], .some 48)), (.some (39, .true), (.cvt .u64 (.tmp 48), .some 49)), (.some (39, .true), (.bin .neq (.tmp 40) (.tmp 49), .some 50)), (none, (.pick (.tmp 39) (.tmp 50) (.const (.bool .false)), .some 51))] []) (.cond (.tmp 51)
  (.reg [(none, (.load (.some 4) (.tmp 7), .some 52)), (none, (.fadr 1 (.tmp 4), .some 53)), (none, (.load none (.tmp 53), .some 54)), (none, (.call (.func 104) [.tmp 52, .const (.int .i64 6), .tmp 54], .some 55)), (none, (.store 4 (.tmp 7) (.tmp 55), none))] []) .skip)) (.seq (.seq
  (.reg [(none, (.fadr 2 (.tmp 7), .some 56)), (none, (.fadr 0 (.tmp 56), .some 57)), (none, (.load none (.tmp 57), .some 58)), (none, (.bin .neq (.tmp 58) (.const (.int .i64 0)), .some 59))] []) (.cond (.tmp 59) (.seq
  (.reg [(none, (.load (.some 4) (.tmp 7), .some 60)), (none, (.build [.int .i64 0, .int .u64 0, .int .u64 0] [], .some 61)), (none, (.store 4 (.tmp 2) (.tmp 60), none)), (none, (.store 3 (.tmp 3) (.tmp 61), none))] []) .ret) .skip)) (.seq
  (.reg [(none, (.load (.some 4) (.tmp 7), .some 62)), (none, (.load (.some 3) (.tmp 6), .some 63)), (none, (.store 4 (.tmp 2) (.tmp 62), none)), (none, (.store 3 (.tmp 3) (.tmp 63), none))] [(0, 1), (1, 2)]) .ret))))))))
theorem b76 : Try.f76.body.bind (compC Try.prog) = some c76 := by kernel_rfl
theorem r76 : compR Try.prog Try.f76 = .some [.cell 2 (.some 4), .cell 3 (.some 3)] := by kernel_rfl
theorem n76 : (Try.f76.name == "runtime.NumGoroutine") = false := by kernel_rfl
def c77 : C := .seq
  (.reg [(none, (.box (.tmp 0), .some 1)), (none, (.new [.slice none 0 0, .int .i64 0, .int .i64 0, .int .i64 0], .some 2)), (none, (.mov (.const (.int .i64 0)), .some 3))] []) (.seq
  (.reg [(none, (.load (.some 4) (.tmp 1), .some 9)), (none, (.call (.func 103) [.tmp 9, .const (.int .i64 4)], .some 10)), (none, (.mov (.tmp 10), .some 8)), (none, (.ext (.tmp 8) 0, .some 11)), (none, (.ext (.tmp 8) 1, .some 12)), (none, (.new [.slice none 0 0, .int .i64 0, .int .i64 0, .int .i64 0], .some 4)), (none, (.store 4 (.tmp 4) (.tmp 11), none)), (none, (.mov (.tmp 12), .some 5))] []) (.seq (.seq
  (.reg [(none, (.fadr 2 (.tmp 4), .some 13)), (none, (.fadr 0 (.tmp 13), .some 14)), (none, (.load none (.tmp 14), .some 15)), (none, (.bin .eql (.tmp 15) (.const (.int .i64 0)), .some 16)), (none, (.mov (.tmp 16), .some 17)), (.some (17, .true), (.mov (.tmp 5), .some 18)), (.some (17, .true), (.b2s (.tmp 18), .some 19)), (.some (17, .true), (.bin .neq (.tmp 19) (.const (.string (.mk (#[84, 72, 79, 76])))), .some 20)), (none, (.pick (.tmp 17) (.tmp 20) (.const (.bool .false)), .some 21))] []) (.cond (.tmp 21)
  (.reg [(none, (.load (.some 4) (.tmp 4), .some 22)), (none, (.fadr 1 (.tmp 1), .some 23)), (none, (.load none (.tmp 23), .some 24)), (none, (.call (.func 104) [.tmp 22, .const (.int .i64 14), .tmp 24], .some 25)), (none, (.store 4 (.tmp 4) (.tmp 25), none))] []) .skip)) (.seq
  (.reg [(none, (.load (.some 4) (.tmp 4), .some 27)), (none, (.call (.func 103) [.tmp 27, .const (.int .i64 1)], .some 28)), (none, (.mov (.tmp 28), .some 26)), (none, (.ext (.tmp 26) 0, .some 29)), (none, (.ext (.tmp 26) 1, .some 30)), (none, (.new [.slice none 0 0, .int .i64 0, .int .i64 0, .int .i64 0], .some 6)), (none, (.store 4 (.tmp 6) (.tmp 29), none)), (none, (.mov (.tmp 30), .some 7))] []) (.seq (.seq
  (.reg [(none, (.fadr 2 (.tmp 6), .some 31)), (none, (.fadr 0 (.tmp 31), .some 32)), (none, (.load none (.tmp 32), .some 33)), (none, (.bin .eql (.tmp 33) (.const (.int .i64 0)), .some 34)), (none, (.mov (.tmp 34), .some 35)), (.some (35, .true), (.mov (.tmp 7), .some 36)), (.some (35, .true), (.iadr 1 (.tmp 36) (.const (.int .i64 0)), .some 37)), (.some (35, .true), (.load none (.tmp 37), .some 38)), (.some (35, .true), (.bin .lss (.tmp 38) (.const (.int .u8 1)), .some 39)), (.some (35, .true), (.mov (.tmp 39), .some 40)), (.some (40, .false), (.mov (.tmp 7), .some 41)), (.some (40, .false), (.iadr 1 (.tmp 41) (.const (.int .i64 0)), .some 42)), (.some (40, .false), (.load none (.tmp 42), .some 43)), (.some (40, .false), (.bin .gtr (.tmp 43) (.const (.int .u8 3)), .some 44)), (.some (35, .true), (.pick (.tmp 40) (.const (.bool .true)) (.tmp 44), .some 45)), (none, (.pick (.tmp 35) (.tmp 45) (.const (.bool .false)), .some 46))] []) (.cond (.tmp 46)
  (.reg [(none, (.load (.some 4) (.tmp 6), .some 47)), (none, (.fadr 1 (.tmp 4), .some 48)), (none, (.load none (.tmp 48), .some 49)), (none, (.call (.func 104) [.tmp 47, .const (.int .i64 8), .tmp 49], .some 50)), (none, (.store 4 (.tmp 6) (.tmp 50), none))] []) .skip)) (.seq (.seq
  (.reg [(none, (.fadr 2 (.tmp 6), .some 51)), (none, (.fadr 0 (.tmp 51), .some 52)), (none, (.load none (.tmp 52), .some 53)), (none, (.bin .neq (.tmp 53) (.const (.int .i64 0)), .some 54))] []) (.cond (.tmp 54) (.seq
  (.reg [(none, (.load (.some 4) (.tmp 6), .some 55)), (none, (.store 4 (.tmp 2) (.tmp 55), none)), (none, (.mov (.const (.int .i64 0)), .some 3))] []) .ret) .skip)) (.seq
  (.reg [(none, (.load (.some 4) (.tmp 6), .some 56)), (none, (.mov (.tmp 7), .some 57)), (none, (.iadr 1 (.tmp 57) (.const (.int .i64 0)), .some 58)), (none, (.load none (.tmp 58), .some 59)), (none, (.cvt .i64 (.tmp 59), .some 60)), (none, (.store 4 (.tmp 2) (.tmp 56), none)), (none, (.mov (.tmp 60), .some 3))] [(0, 3), (3, 5)]) .ret))))))
theorem b77 : Try.f77.body.bind (compC Try.prog) = some c77 := by kernel_rfl
theorem r77 : compR Try.prog Try.f77 = .some [.cell 2 (.some 4), .tmp 3] := by kernel_rfl
theorem n77 : (Try.f77.name == "runtime.NumGoroutine") = false := by kernel_rfl
def c78 : C := .seq
  (.reg [(none, (.mov (.const (.bool .false)), .some 4))] []) (.seq (.block 0 (.seq
  (.reg [(none, (.mov (.tmp 0), .some 6)), (none, (.call (.func 57) [.tmp 6], .some 7)), (none, (.un .not (.tmp 7), .some 8)), (none, (.mov (.tmp 8), .some 5))] []) (.cond (.tmp 5) (.seq
  (.reg [(none, (.mov (.const (.bool .false)), .some 4))] []) .ret) (.seq
  (.reg [(none, (.mov (.tmp 1), .some 10)), (none, (.bin .lss (.tmp 10) (.const (.int .i64 0)), .some 11)), (none, (.mov (.tmp 11), .some 9))] []) (.cond (.tmp 9) (.seq
  (.reg [(none, (.mov (.tmp 0), .some 12)), (none, (.mov (.tmp 0), .some 13)), (none, (.nilc (.tmp 13), .some 14)), (none, (.fadr 1 (.tmp 14), .some 15)), (none, (.load none (.tmp 15), .some 16)), (none, (.call (.func 97) [.tmp 12, .const (.int .i64 17), .tmp 16], .some 17))] []) (.seq
  (.reg [(none, (.mov (.const (.bool .false)), .some 4))] []) .ret)) (.seq
  (.reg [(none, (.mov (.tmp 1), .some 19)), (none, (.mov (.tmp 0), .some 20)), (none, (.call (.func 150) [.tmp 20], .some 21)), (none, (.bin .gtr (.tmp 19) (.tmp 21), .some 22)), (none, (.mov (.tmp 22), .some 18))] []) (.cond (.tmp 18) (.seq
  (.reg [(none, (.mov (.tmp 0), .some 23)), (none, (.mov (.tmp 0), .some 24)), (none, (.nilc (.tmp 24), .some 25)), (none, (.fadr 0 (.tmp 25), .some 26)), (none, (.load none (.tmp 26), .some 27)), (none, (.len .false (.tmp 27), .some 28)), (none, (.call (.func 97) [.tmp 23, .const (.int .i64 1), .tmp 28], .some 29))] []) (.seq
  (.reg [(none, (.mov (.const (.bool .false)), .some 4))] []) .ret)) .skip))))))) (.seq
  (.reg [(none, (.mov (.tmp 0), .some 30)), (none, (.nilc (.tmp 30), .some 31)), (none, (.fadr 1 (.tmp 31), .some 32)), (none, (.load none (.tmp 32), .some 33)), (none, (.mov (.tmp 1), .some 34)), (none, (.bin .add (.tmp 33) (.tmp 34), .some 35)), (none, (.nilc (.tmp 30), .some 36)), (none, (.fadr 1 (.tmp 36), .some 37)), (none, (.store 1 (.tmp 37) (.tmp 35), none))] []) (.seq
  (.reg [(none, (.mov (.const (.bool .true)), .some 4))] []) .ret)))
theorem b78 : Try.f78.body.bind (compC Try.prog) = some c78 := by kernel_rfl
theorem r78 : compR Try.prog Try.f78 = .some [.tmp 4] := by kernel_rfl
theorem n78 : (Try.f78.name == "runtime.NumGoroutine") = false := by kernel_rfl
def c79 : C := .seq
  (.reg [(none, (.new [.int .i64 0, .int .u64 0, .int .u64 0], .some 2))] []) (.seq
  (.reg [(none, (.mov (.tmp 0), .some 6)), (none, (.call (.func 146) [.tmp 6], .some 7)), (none, (.build [.int .i64 0, .int .u64 0, .int .u64 0] [(0, (1, .tmp 7))], .some 8)), (none, (.new [.int .i64 0, .int .u64 0, .int .u64 0], .some 3)), (none, (.store 3 (.tmp 3) (.tmp 8), none))] []) (.seq
  (.reg [(none, (.mov (.tmp 0), .some 9)), (none, (.call (.func 98) [.tmp 9], .some 10)), (none, (.fadr 1 (.tmp 3), .some 11)), (none, (.store 1 (.tmp 11) (.tmp 10), none))] []) (.seq (.seq
  (.reg [(none, (.fadr 0 (.tmp 3), .some 12)), (none, (.load none (.tmp 12), .some 13)), (none, (.call (.func 145) [.tmp 13], .some 14))] []) (.cond (.tmp 14)
  (.reg [(none, (.mov (.tmp 0), .some 15)), (none, (.call (.func 151) [.tmp 15], .some 16)), (none, (.fadr 2 (.tmp 3), .some 17)), (none, (.store 1 (.tmp 17) (.tmp 16), none))] []) .skip)) (.seq
  (.reg [(none, (.mov (.tmp 0), .some 18)), (none, (.call (.func 49) [.tmp 18], .some 19)), (none, (.mov (.tmp 19), .some 4))] []) (.seq
  (.reg [(none, (.mov (.tmp 0), .some 20)), (none, (.call (.func 152) [.tmp 20, .const (.int .i64 4)], .some 21)), (none, (.mov (.tmp 21), .some 5))] []) (.seq (.seq
  (.reg [(none, (.mov (.tmp 0), .some 22)), (none, (.call (.func 57) [.tmp 22], .some 23)), (none, (.un .not (.tmp 23), .some 24))] []) (.cond (.tmp 24) (.seq
  (.reg [(none, (.build [.int .i64 0, .int .u64 0, .int .u64 0] [], .some 25)), (none, (.store 3 (.tmp 2) (.tmp 25), none))] []) .ret) .skip)) (.seq (.seq
  (.reg [(none, (.mov (.tmp 5), .some 26)), (none, (.load (.some 3) (.tmp 3), .some 27)), (none, (.call (.func 139) [.tmp 27], .some 28)), (none, (.call (.func 142) [.tmp 28], .some 29)), (none, (.cvt .u64 (.tmp 29), .some 30)), (none, (.bin .neq (.tmp 26) (.tmp 30), .some 31))] []) (.cond (.tmp 31) (.seq
  (.reg [(none, (.mov (.tmp 0), .some 32)), (none, (.mov (.tmp 4), .some 33)), (none, (.call (.func 97) [.tmp 32, .const (.int .i64 6), .tmp 33], .some 34))] []) (.seq
  (.reg [(none, (.build [.int .i64 0, .int .u64 0, .int .u64 0] [], .some 35)), (none, (.store 3 (.tmp 2) (.tmp 35), none))] []) .ret)) .skip)) (.seq
  (.reg [(none, (.load (.some 3) (.tmp 3), .some 36)), (none, (.store 3 (.tmp 2) (.tmp 36), none))] []) .ret))))))))
theorem b79 : Try.f79.body.bind (compC Try.prog) = some c79 := by kernel_rfl
theorem r79 : compR Try.prog Try.f79 = .some [.cell 2 (.some 3)] := by kernel_rfl
theorem n79 : (Try.f79.name == "runtime.NumGoroutine") = false := by kernel_rfl
def c97 : C := .seq
  (.reg [(none, (.mov (.tmp 0), .some 6)), (none, (.call (.func 57) [.tmp 6], .some 7))] []) (.cond (.tmp 7)
  (.reg [(none, (.mov (.tmp 0), .some 8)), (none, (.mov (.tmp 1), .some 9)), (none, (.mov (.tmp 2), .some 10)), (none, (.call (.func 124) [.tmp 9, .tmp 10], .some 11)), (none, (.nilc (.tmp 8), .some 12)), (none, (.fadr 2 (.tmp 12), .some 13)), (none, (.store 2 (.tmp 13) (.tmp 11), none))] []) .skip)
theorem b97 : Try.f97.body.bind (compC Try.prog) = some c97 := by kernel_rfl
theorem r97 : compR Try.prog Try.f97 = .some [] := by kernel_rfl
theorem n97 : (Try.f97.name == "runtime.NumGoroutine") = false := by kernel_rfl
def c110 : C := .seq
  (.reg [(none, (.mov (.const (.slice none 0 0)), .some 2))] []) (.seq (.seq
  (.reg [(none, (.mov (.tmp 0), .some 3)), (none, (.bin .lss (.tmp 3) (.const (.int .u64 128)), .some 4))] []) (.cond (.tmp 4) (.seq
  (.reg [(none, (.mov (.tmp 0), .some 5)), (none, (.cvt .u8 (.tmp 5), .some 6)), (none, (.bsl 1 [.tmp 6], .some 7)), (none, (.mov (.tmp 7), .some 2))] []) .ret) .skip)) (.seq
  (.reg [(none, (.mov (.tmp 0), .some 8)), (none, (.bin .rem (.tmp 8) (.const (.int .u64 128)), .some 9)), (none, (.bin .add (.const (.int .u64 128)) (.tmp 9), .some 10)), (none, (.cvt .u8 (.tmp 10), .some 11)), (none, (.bsl 1 [.tmp 11], .some 12)), (none, (.mov (.tmp 0), .some 13)), (none, (.bin .quo (.tmp 13) (.const (.int .u64 128)), .some 14)), (none, (.call (.func 110) [.tmp 14], .some 15)), (none, (.app 1 1 (.tmp 12) (.tmp 15), .some 16)), (none, (.mov (.tmp 16), .some 2))] []) .ret))
theorem b110 : Try.f110.body.bind (compC Try.prog) = some c110 := by kernel_rfl
theorem r110 : compR Try.prog Try.f110 = .some [.tmp 2] := by kernel_rfl
theorem n110 : (Try.f110.name == "runtime.NumGoroutine") = false := by kernel_rfl
def c124 : C := .seq
  (.reg [(none, (.new [.int .i64 0, .int .i64 0], .some 4))] []) (.seq (.seq
  (.reg [(none, (.mov (.tmp 0), .some 5)), (none, (.bin .eql (.tmp 5) (.const (.int .i64 0)), .some 6))] []) (.cond (.tmp 6) (.seq
  (.reg [(none, (.build [.int .i64 0, .int .i64 0] [], .some 7)), (none, (.store 2 (.tmp 4) (.tmp 7), none))] []) .ret) .skip)) (.seq
  (.reg [(none, (.mov (.tmp 0), .some 8)), (none, (.mov (.tmp 1), .some 9)), (none, (.build [.int .i64 0, .int .i64 0] [(0, (1, .tmp 8)), (1, (1, .tmp 9))], .some 10)), (none, (.store 2 (.tmp 4) (.tmp 10), none))] []) .ret))
theorem b124 : Try.f124.body.bind (compC Try.prog) = some c124 := by kernel_rfl
theorem r124 : compR Try.prog Try.f124 = .some [.cell 4 (.some 2)] := by kernel_rfl
theorem n124 : (Try.f124.name == "runtime.NumGoroutine") = false := by kernel_rfl
def c130 : C := .seq
  (.reg [(none, (.mov (.const (.int .i64 0)), .some 2))] []) (.seq (.seq
  (.reg [(none, (.mov (.tmp 0), .some 3)), (none, (.eqp .false (.tmp 3) (.const (.pointer none)), .some 4))] []) (.cond (.tmp 4) (.seq
  (.reg [(none, (.mov (.const (.int .i64 19)), .some 2))] []) .ret) .skip)) (.seq
  (.reg [(none, (.mov (.tmp 0), .some 5)), (none, (.nilc (.tmp 5), .some 6)), (none, (.fadr 2 (.tmp 6), .some 7)), (none, (.load none (.tmp 7), .some 8)), (none, (.mov (.tmp 8), .some 2))] []) .ret))
theorem b130 : Try.f130.body.bind (compC Try.prog) = some c130 := by kernel_rfl
theorem r130 : compR Try.prog Try.f130 = .some [.tmp 2] := by kernel_rfl
theorem n130 : (Try.f130.name == "runtime.NumGoroutine") = false := by kernel_rfl
def c131 : C := .seq
  (.reg [(none, (.mov (.const (.int .i64 0)), .some 2))] []) (.seq
  (.reg [(none, (.mov (.const (.int .i64 1)), .some 3))] []) (.seq (.block 0 (.loop (.seq (.seq
  (.reg [(none, (.mov (.tmp 0), .some 4)), (none, (.bin .geq (.tmp 4) (.const (.int .u64 128)), .some 5))] []) (.cond (.tmp 5) .skip (.exit 0))) (.block 1 (.seq
  (.reg [(none, (.mov (.tmp 0), .some 6)), (none, (.bin .shr (.tmp 6) (.const (.int .u64 7)), .some 7)), (none, (.mov (.tmp 7), .some 0))] [])
  (.reg [(none, (.mov (.tmp 3), .some 8)), (none, (.bin .add (.tmp 8) (.const (.int .i64 1)), .some 9)), (none, (.mov (.tmp 9), .some 3))] [])))))) (.seq
  (.reg [(none, (.mov (.tmp 3), .some 10)), (none, (.mov (.tmp 10), .some 2))] []) .ret)))
theorem b131 : Try.f131.body.bind (compC Try.prog) = some c131 := by kernel_rfl
theorem r131 : compR Try.prog Try.f131 = .some [.tmp 2] := by kernel_rfl
theorem n131 : (Try.f131.name == "runtime.NumGoroutine") = false := by kernel_rfl
def c134 : C := .seq
  (.reg [(none, (.mov (.const (.string (.mk #[]))), .some 0))] []) (.seq
  (.reg [(none, (.mov (.const (.string (.mk (#[84, 72, 79, 76])))), .some 0))] []) .ret)
theorem b134 : Try.f134.body.bind (compC Try.prog) = some c134 := by kernel_rfl
theorem r134 : compR Try.prog Try.f134 = .some [.tmp 0] := by kernel_rfl
theorem n134 : (Try.f134.name == "runtime.NumGoroutine") = false := by kernel_rfl
def c142 : C := .seq
  (.reg [(none, (.mov (.const (.int .u32 0)), .some 2))] []) (.seq
  (.reg [(none, (.call (.func 177) [], .some 3)), (none, (.mov (.tmp 0), .some 4)), (none, (.call (.func 176) [.tmp 3, .tmp 4], .some 5)), (none, (.call (.func 175) [.tmp 5], .some 6)), (none, (.mov (.tmp 6), .some 2))] []) .ret)
theorem b142 : Try.f142.body.bind (compC Try.prog) = some c142 := by kernel_rfl
theorem r142 : compR Try.prog Try.f142 = .some [.tmp 2] := by kernel_rfl
theorem n142 : (Try.f142.name == "runtime.NumGoroutine") = false := by kernel_rfl
def c146 : C := .seq
  (.reg [(none, (.mov (.const (.int .i64 0)), .some 2))] []) (.seq
  (.reg [(none, (.mov (.tmp 0), .some 5)), (none, (.call (.func 49) [.tmp 5], .some 6)), (none, (.mov (.tmp 6), .some 3))] []) (.seq (.seq
  (.reg [(none, (.mov (.tmp 0), .some 7)), (none, (.call (.func 178) [.tmp 7, .const (.int .i64 4)], .some 8)), (none, (.b2s (.tmp 8), .some 9)), (none, (.bin .neq (.tmp 9) (.const (.string (.mk (#[84, 72, 79, 76])))), .some 10))] []) (.cond (.tmp 10)
  (.reg [(none, (.mov (.tmp 0), .some 11)), (none, (.mov (.tmp 3), .some 12)), (none, (.call (.func 97) [.tmp 11, .const (.int .i64 14), .tmp 12], .some 13))] []) .skip)) (.seq
  (.reg [(none, (.mov (.tmp 0), .some 14)), (none, (.call (.func 96) [.tmp 14], .some 15)), (none, (.cvt .i64 (.tmp 15), .some 16)), (none, (.mov (.tmp 16), .some 4))] []) (.seq (.seq
  (.reg [(none, (.mov (.tmp 4), .some 17)), (none, (.bin .lss (.tmp 17) (.const (.int .i64 1)), .some 18)), (none, (.mov (.tmp 18), .some 19)), (.some (19, .false), (.mov (.tmp 4), .some 20)), (.some (19, .false), (.bin .gtr (.tmp 20) (.const (.int .i64 3)), .some 21)), (none, (.pick (.tmp 19) (.const (.bool .true)) (.tmp 21), .some 22))] []) (.cond (.tmp 22)
  (.reg [(none, (.mov (.tmp 0), .some 23)), (none, (.mov (.tmp 0), .some 24)), (none, (.call (.func 49) [.tmp 24], .some 25)), (none, (.bin .sub (.tmp 25) (.const (.int .i64 1)), .some 26)), (none, (.call (.func 97) [.tmp 23, .const (.int .i64 8), .tmp 26], .some 27))] []) .skip)) (.seq (.seq
  (.reg [(none, (.mov (.tmp 0), .some 28)), (none, (.call (.func 57) [.tmp 28], .some 29)), (none, (.un .not (.tmp 29), .some 30))] []) (.cond (.tmp 30) (.seq
  (.reg [(none, (.mov (.const (.int .i64 0)), .some 2))] []) .ret) .skip)) (.seq
  (.reg [(none, (.mov (.tmp 4), .some 31)), (none, (.mov (.tmp 31), .some 2))] []) .ret))))))
theorem b146 : Try.f146.body.bind (compC Try.prog) = some c146 := by kernel_rfl
theorem r146 : compR Try.prog Try.f146 = .some [.tmp 2] := by kernel_rfl
theorem n146 : (Try.f146.name == "runtime.NumGoroutine") = false := by kernel_rfl
def c156 : C := .seq
  (.reg [(none, (.new [.int .i64 0, .int .i64 0], .some 4))] []) (.seq
  (.reg [(none, (.build [.int .i64 0, .int .i64 0] [], .some 6)), (none, (.new [.int .i64 0, .int .i64 0], .some 5)), (none, (.store 2 (.tmp 5) (.tmp 6), none))] []) (.seq (.seq
  (.reg [(none, (.mov (.tmp 0), .some 7)), (none, (.bin .neq (.tmp 7) (.const (.int .i64 0)), .some 8))] []) (.cond (.tmp 8)
  (.reg [(none, (.mov (.tmp 0), .some 9)), (none, (.mov (.tmp 1), .some 10)), (none, (.fadr 0 (.tmp 5), .some 11)), (none, (.store 1 (.tmp 11) (.tmp 9), none)), (none, (.fadr 1 (.tmp 5), .some 12)), (none, (.store 1 (.tmp 12) (.tmp 10), none))] []) .skip)) (.seq
  (.reg [(none, (.load (.some 2) (.tmp 5), .some 13)), (none, (.store 2 (.tmp 4) (.tmp 13), none))] []) .ret)))
theorem b156 : Try.f156.body.bind (compC Try.prog) = some c156 := by kernel_rfl
theorem r156 : compR Try.prog Try.f156 = .some [.cell 4 (.some 2)] := by kernel_rfl
theorem n156 : (Try.f156.name == "runtime.NumGoroutine") = false := by kernel_rfl
def c173 : C := .reg [(none, (.mov (.tmp 0), .some 4)), (none, (.mov (.tmp 1), .some 5)), (none, (.mov (.tmp 1), .some 6)), (none, (.call (.func 144) [.tmp 6], .some 7)), (none, (.call (.func 186) [.tmp 4, .tmp 5, .tmp 7], .some 8))] []
theorem b173 : Try.f173.body.bind (compC Try.prog) = some c173 := by kernel_rfl
theorem r173 : compR Try.prog Try.f173 = .some [] := by kernel_rfl
theorem n173 : (Try.f173.name == "runtime.NumGoroutine") = false := by kernel_rfl
def c175 : C := .seq
  (.reg [(none, (.mov (.const (.int .u32 0)), .some 2))] []) (.seq
  (.reg [(none, (.mov (.tmp 0), .some 3)), (none, (.un .xor (.tmp 3), .some 4)), (none, (.mov (.tmp 4), .some 2))] []) .ret)
theorem b175 : Try.f175.body.bind (compC Try.prog) = some c175 := by kernel_rfl
theorem r175 : compR Try.prog Try.f175 = .some [.tmp 2] := by kernel_rfl
theorem n175 : (Try.f175.name == "runtime.NumGoroutine") = false := by kernel_rfl
def c189 : C := .seq
  (.reg [(none, (.mov (.const (.int .u32 0)), .some 4))] []) (.seq
  (.reg [(none, (.mov (.tmp 0), .some 7)), (none, (.mov (.tmp 1), .some 8)), (none, (.cvt .u32 (.tmp 8), .some 9)), (none, (.bin .xor (.tmp 7) (.tmp 9), .some 10)), (none, (.mov (.tmp 10), .some 0))] []) (.seq (.seq
  (.reg [(none, (.mov (.const (.int .i64 0)), .some 5))] []) (.block 0 (.loop (.seq (.seq
  (.reg [(none, (.mov (.tmp 5), .some 11)), (none, (.bin .lss (.tmp 11) (.const (.int .i64 8)), .some 12))] []) (.cond (.tmp 12) .skip (.exit 0))) (.seq (.block 1 (.seq
  (.reg [(none, (.mov (.tmp 0), .some 15)), (none, (.bin .rem (.tmp 15) (.const (.int .u32 2)), .some 16)), (none, (.mov (.tmp 16), .some 6))] []) (.seq
  (.reg [(none, (.mov (.tmp 0), .some 17)), (none, (.bin .quo (.tmp 17) (.const (.int .u32 2)), .some 18)), (none, (.mov (.tmp 18), .some 0))] []) (.seq
  (.reg [(none, (.mov (.tmp 6), .some 19)), (none, (.bin .eql (.tmp 19) (.const (.int .u32 1)), .some 20))] []) (.cond (.tmp 20)
  (.reg [(none, (.mov (.tmp 0), .some 21)), (none, (.bin .xor (.tmp 21) (.const (.int .u32 2197175160)), .some 22)), (none, (.mov (.tmp 22), .some 0))] []) .skip)))))
  (.reg [(none, (.mov (.tmp 5), .some 13)), (none, (.bin .add (.tmp 13) (.const (.int .i64 1)), .some 14)), (none, (.mov (.tmp 14), .some 5))] [])))))) (.seq
  (.reg [(none, (.mov (.tmp 0), .some 23)), (none, (.mov (.tmp 23), .some 4))] []) .ret)))
theorem b189 : Try.f189.body.bind (compC Try.prog) = some c189 := by kernel_rfl
theorem r189 : compR Try.prog Try.f189 = .some [.tmp 4] := by kernel_rfl
theorem n189 : (Try.f189.name == "runtime.NumGoroutine") = false := by kernel_rfl
end Go.Proofs.Ytkhnfleejgfhgaa
