/-
  The codes of the seat's functions over abstract values, each shown to be its function's own (by program: wip/tools/codes.py).
-/
import Derived.Test.YtkhnfleejgfhgaaA2
import Derived.Test.YtkhnfleejgfhgaaProg
import Derived.KernelRfl
namespace Go.Proofs.Ytkhnfleejgfhgaa
def c5 : C := .seq
  (.reg [(none, (.mov (.const (.bool .false)), .some 2))] []) (.seq (.seq
  (.reg [(none, (.mov (.tmp 0), .some 7)), (none, (.len .false (.tmp 7), .some 8)), (none, (.bin .gtr (.tmp 8) (.const (.int .i64 300)), .some 9))] []) (.cond (.tmp 9) (.seq
  (.reg [(none, (.call (.func 32) [], .some 10)), (none, (.mov (.tmp 10), .some 2))] []) .ret) .skip)) (.seq
  (.reg [(none, (.mov (.tmp 0), .some 12)), (none, (.call (.func 33) [.tmp 12], .some 13)), (none, (.mov (.tmp 13), .some 11)), (none, (.ext (.tmp 11) 0, .some 14)), (none, (.ext (.tmp 11) 1, .some 15)), (none, (.new [.int .u64 0, .int .i64 0, .int .i64 0, .int .u64 0, .int .u64 0, .int .i64 0, .int .i64 0], .some 3)), (none, (.new [.int .i64 0, .int .i64 0], .some 4)), (none, (.store 7 (.tmp 3) (.tmp 14), none)), (none, (.store 2 (.tmp 4) (.tmp 15), none))] []) (.seq
  (.reg [(none, (.mov (.tmp 0), .some 17)), (none, (.call (.func 34) [.tmp 17], .some 18)), (none, (.mov (.tmp 18), .some 16)), (none, (.ext (.tmp 16) 0, .some 19)), (none, (.ext (.tmp 16) 1, .some 20)), (none, (.new [.int .u64 0, .int .i64 0, .int .i64 0, .int .u64 0, .int .u64 0, .int .i64 0, .int .i64 0], .some 5)), (none, (.new [.int .i64 0, .int .i64 0], .some 6)), (none, (.store 7 (.tmp 5) (.tmp 19), none)), (none, (.store 2 (.tmp 6) (.tmp 20), none))] []) (.seq (.seq
  (.reg [(none, (.load (.some 7) (.tmp 3), .some 21)), (none, (.call (.func 35) [.tmp 21], .some 22)), (none, (.load (.some 7) (.tmp 5), .some 23)), (none, (.eqa .true 7 (.tmp 22) (.tmp 23), .some 24)), (none, (.mov (.tmp 24), .some 25)), (.some (25, .false), (.load (.some 2) (.tmp 4), .some 26)), (.some (25, .false), (.load (.some 2) (.tmp 6), .some 27)), (.some (25, .false), (.eqa .true 2 (.tmp 26) (.tmp 27), .some 28)), (none, (.pick (.tmp 25) (.const (.bool .true)) (.tmp 28), .some 29))] [(0, 2), (1, 2), (5, 6)]) (.cond (.tmp 29) (.seq
  (.reg [(none, (.mov (.const (.bool .false)), .some 2))] []) .ret) .skip)) (.seq
  (.reg [(none, (.fadr 0 (.tmp 6), .some 30)), (none, (.load none (.tmp 30), .some 31)), (none, (.bin .neq (.tmp 31) (.const (.int .i64 0)), .some 32)), (none, (.mov (.tmp 32), .some 33)), (.some (33, .false), (.load (.some 7) (.tmp 5), .some 34)), (.some (33, .false), (.call (.func 36) [.tmp 34], .some 35)), (.some (33, .false), (.mov (.tmp 35), .some 36)), (.some (36, .true), (.load (.some 7) (.tmp 5), .some 37)), (.some (36, .true), (.call (.func 37) [.tmp 37], .some 38)), (.some (36, .true), (.mov (.tmp 0), .some 39)), (.some (36, .true), (.call (.func 23) [.tmp 38, .tmp 39], .some 40)), (.some (33, .false), (.pick (.tmp 36) (.tmp 40) (.const (.bool .false)), .some 41)), (none, (.pick (.tmp 33) (.const (.bool .true)) (.tmp 41), .some 42)), (none, (.mov (.tmp 42), .some 43)), (.some (43, .true), (.call (.func 32) [], .some 44)), (none, (.pick (.tmp 43) (.tmp 44) (.const (.bool .false)), .some 45)), (none, (.mov (.tmp 45), .some 2))] []) .ret)))))
theorem b5 : Try.f5.body.bind (compC Try.prog) = some c5 := by kernel_rfl
theorem r5 : compR Try.prog Try.f5 = .some [.tmp 2] := by kernel_rfl
theorem n5 : (Try.f5.name == "runtime.NumGoroutine") = false := by kernel_rfl
def c32 : C := .seq
  (.reg [(none, (.mov (.const (.bool .false)), .some 0))] []) (.seq
  (.reg [(none, (.call (.func 91) [.const (.int .i64 9)], .some 2)), (none, (.mov (.tmp 2), .some 1))] []) (.seq
  (.reg [(none, (.mov (.tmp 1), .some 3)), (none, (.len .false (.tmp 3), .some 4)), (none, (.bin .eql (.tmp 4) (.const (.int .i64 12)), .some 5)), (none, (.mov (.tmp 5), .some 6)), (.some (6, .true), (.call (.func 95) [], .some 7)), (.some (6, .true), (.bin .eql (.tmp 7) (.const (.int .i64 12)), .some 8)), (none, (.pick (.tmp 6) (.tmp 8) (.const (.bool .false)), .some 9)), (none, (.mov (.tmp 9), .some 10)), (.some (10, .true), (.mov (.tmp 1), .some 11)), (.some (10, .true), (.slice 1 (.tmp 11) none (.some (.const (.int .i64 4))) none, .some 12)), (.some (10, .true), (.bsl 1 [.const (.int .u8 9), .const (.int .u8 0), .const (.int .u8 0), .const (.int .u8 0)], .some 13)), (.some (10, .true), (.call (.func 23) [.tmp 12, .tmp 13], .some 14)), (none, (.pick (.tmp 10) (.tmp 14) (.const (.bool .false)), .some 15)), (none, (.mov (.tmp 15), .some 16)), (.some (16, .true), (.mov (.tmp 1), .some 17)), (.some (16, .true), (.slice 1 (.tmp 17) (.some (.const (.int .i64 8))) none none, .some 18)), (.some (16, .true), (.b2s (.tmp 18), .some 19)), (.some (16, .true), (.bin .eql (.tmp 19) (.const (.string (.mk (#[76, 79, 72, 84])))), .some 20)), (none, (.pick (.tmp 16) (.tmp 20) (.const (.bool .false)), .some 21)), (none, (.mov (.tmp 21), .some 22)), (none, (.pick (.tmp 22) (.const (.bool .true)) (.const (.bool .false)), .some 23)), (none, (.mov (.tmp 23), .some 0))] []) .ret))
theorem b32 : Try.f32.body.bind (compC Try.prog) = some c32 := by kernel_rfl
theorem r32 : compR Try.prog Try.f32 = .some [.tmp 0] := by kernel_rfl
theorem n32 : (Try.f32.name == "runtime.NumGoroutine") = false := by kernel_rfl
def c33 : C := .seq
  (.reg [(none, (.new [.int .u64 0, .int .i64 0, .int .i64 0, .int .u64 0, .int .u64 0, .int .i64 0, .int .i64 0], .some 2)), (none, (.new [.int .i64 0, .int .i64 0], .some 3))] []) (.seq
  (.reg [(none, (.mov (.tmp 0), .some 7)), (none, (.call (.func 44) [.tmp 7], .some 8)), (none, (.mov (.tmp 8), .some 4))] []) (.seq (.seq
  (.reg [(none, (.mov (.tmp 4), .some 9)), (none, (.call (.func 96) [.tmp 9], .some 10)), (none, (.bin .neq (.tmp 10) (.const (.int .u8 3)), .some 11))] []) (.cond (.tmp 11)
  (.reg [(none, (.mov (.tmp 4), .some 12)), (none, (.call (.func 97) [.tmp 12, .const (.int .i64 7), .const (.int .i64 0)], .some 13))] []) .skip)) (.seq
  (.reg [(none, (.mov (.tmp 4), .some 14)), (none, (.call (.func 98) [.tmp 14], .some 15)), (none, (.build [.int .u64 0, .int .i64 0, .int .i64 0, .int .u64 0, .int .u64 0, .int .i64 0, .int .i64 0] [(0, (1, .tmp 15))], .some 16)), (none, (.new [.int .u64 0, .int .i64 0, .int .i64 0, .int .u64 0, .int .u64 0, .int .i64 0, .int .i64 0], .some 5)), (none, (.store 7 (.tmp 5) (.tmp 16), none))] []) (.seq
  (.reg [(none, (.mov (.tmp 4), .some 17)), (none, (.call (.func 99) [.tmp 17, .const (.int .i64 65536)], .some 18)), (none, (.mov (.tmp 4), .some 19)), (none, (.call (.func 99) [.tmp 19, .const (.int .i64 65536)], .some 20)), (none, (.fadr 1 (.tmp 5), .some 21)), (none, (.store 1 (.tmp 21) (.tmp 18), none)), (none, (.fadr 2 (.tmp 5), .some 22)), (none, (.store 1 (.tmp 22) (.tmp 20), none))] []) (.seq
  (.reg [(none, (.mov (.tmp 4), .some 23)), (none, (.call (.func 100) [.tmp 23], .some 24)), (none, (.mov (.tmp 4), .some 25)), (none, (.call (.func 100) [.tmp 25], .some 26)), (none, (.fadr 3 (.tmp 5), .some 27)), (none, (.store 1 (.tmp 27) (.tmp 24), none)), (none, (.fadr 4 (.tmp 5), .some 28)), (none, (.store 1 (.tmp 28) (.tmp 26), none))] []) (.seq
  (.reg [(none, (.mov (.tmp 4), .some 29)), (none, (.call (.func 99) [.tmp 29, .const (.int .i64 1099511627776)], .some 30)), (none, (.mov (.tmp 4), .some 31)), (none, (.call (.func 99) [.tmp 31, .const (.int .i64 1099511627776)], .some 32)), (none, (.fadr 5 (.tmp 5), .some 33)), (none, (.store 1 (.tmp 33) (.tmp 30), none)), (none, (.fadr 6 (.tmp 5), .some 34)), (none, (.store 1 (.tmp 34) (.tmp 32), none))] []) (.seq (.seq
  (.reg [(none, (.load (.some 7) (.tmp 5), .some 35)), (none, (.call (.func 90) [.tmp 35], .some 36)), (none, (.un .not (.tmp 36), .some 37))] []) (.cond (.tmp 37)
  (.reg [(none, (.mov (.tmp 4), .some 38)), (none, (.call (.func 97) [.tmp 38, .const (.int .i64 3), .const (.int .i64 0)], .some 39))] []) .skip)) (.seq
  (.reg [(none, (.mov (.tmp 4), .some 40)), (none, (.call (.func 101) [.tmp 40], .some 41))] []) (.seq (.seq
  (.reg [(none, (.mov (.tmp 4), .some 42)), (none, (.call (.func 48) [.tmp 42], .some 43)), (none, (.new [.int .i64 0, .int .i64 0], .some 6)), (none, (.store 2 (.tmp 6) (.tmp 43), none))] []) (.seq
  (.reg [(none, (.load (.some 2) (.tmp 6), .some 44)), (none, (.call (.func 102) [.tmp 44], .some 45)), (none, (.un .not (.tmp 45), .some 46))] []) (.cond (.tmp 46) (.seq
  (.reg [(none, (.build [.int .u64 0, .int .i64 0, .int .i64 0, .int .u64 0, .int .u64 0, .int .i64 0, .int .i64 0] [], .some 47)), (none, (.load (.some 2) (.tmp 6), .some 48)), (none, (.store 7 (.tmp 2) (.tmp 47), none)), (none, (.store 2 (.tmp 3) (.tmp 48), none))] [(1, 2)]) .ret) .skip))) (.seq
  (.reg [(none, (.load (.some 7) (.tmp 5), .some 49)), (none, (.build [.int .i64 0, .int .i64 0] [], .some 50)), (none, (.store 7 (.tmp 2) (.tmp 49), none)), (none, (.store 2 (.tmp 3) (.tmp 50), none))] []) .ret))))))))))
theorem b33 : Try.f33.body.bind (compC Try.prog) = some c33 := by kernel_rfl
theorem r33 : compR Try.prog Try.f33 = .some [.cell 2 (.some 7), .cell 3 (.some 2)] := by kernel_rfl
theorem n33 : (Try.f33.name == "runtime.NumGoroutine") = false := by kernel_rfl
def c44 : C := .seq
  (.reg [(none, (.mov (.const (.pointer none)), .some 2))] []) (.seq
  (.reg [(none, (.mov (.tmp 0), .some 3)), (none, (.mov (.tmp 0), .some 4)), (none, (.len .false (.tmp 4), .some 5)), (none, (.mov (.tmp 0), .some 6)), (none, (.len .false (.tmp 6), .some 7)), (none, (.slice 1 (.tmp 3) none (.some (.tmp 5)) (.some (.tmp 7)), .some 8)), (none, (.build [.slice none 0 0, .int .i64 0, .int .i64 0, .int .i64 0] [(0, (1, .tmp 8))], .some 9)), (none, (.box (.tmp 9), .some 10)), (none, (.mov (.tmp 10), .some 2))] []) .ret)
theorem b44 : Try.f44.body.bind (compC Try.prog) = some c44 := by kernel_rfl
theorem r44 : compR Try.prog Try.f44 = .some [.tmp 2] := by kernel_rfl
theorem n44 : (Try.f44.name == "runtime.NumGoroutine") = false := by kernel_rfl
def c53 : C := .seq
  (.reg [(none, (.mov (.const (.pointer none)), .some 2))] []) (.seq
  (.reg [(none, (.mov (.tmp 0), .some 3)), (none, (.mx .true (.tmp 3) (.const (.int .i64 0)), .some 4)), (none, (.build [.int .i64 0, .slice none 0 0, .int .i64 0] [(0, (1, .tmp 4))], .some 5)), (none, (.box (.tmp 5), .some 6)), (none, (.mov (.tmp 6), .some 2))] []) .ret)
theorem b53 : Try.f53.body.bind (compC Try.prog) = some c53 := by kernel_rfl
theorem r53 : compR Try.prog Try.f53 = .some [.tmp 2] := by kernel_rfl
theorem n53 : (Try.f53.name == "runtime.NumGoroutine") = false := by kernel_rfl
def c78 : C := .seq
  (.reg [(none, (.mov (.const (.bool .false)), .some 4))] []) (.seq (.block 0 (.seq
  (.reg [(none, (.mov (.tmp 0), .some 6)), (none, (.call (.func 57) [.tmp 6], .some 7)), (none, (.un .not (.tmp 7), .some 8)), (none, (.mov (.tmp 8), .some 5))] []) (.cond (.tmp 5) (.seq
  (.reg [(none, (.mov (.const (.bool .false)), .some 4))] []) .ret) (.seq
  (.reg [(none, (.mov (.tmp 1), .some 10)), (none, (.bin .lss (.tmp 10) (.const (.int .i64 0)), .some 11)), (none, (.mov (.tmp 11), .some 9))] []) (.cond (.tmp 9) (.seq
  (.reg [(none, (.mov (.tmp 0), .some 12)), (none, (.mov (.tmp 0), .some 13)), (none, (.nilc (.tmp 13), .some 14)), (none, (.fadr 1 (.tmp 14), .some 15)), (none, (.load none (.tmp 15), .some 16)), (none, (.call (.func 97) [.tmp 12, .const (.int .i64 17), .tmp 16], .some 17))] []) (.seq
  (.reg [(none, (.mov (.const (.bool .false)), .some 4))] []) .ret)) (.seq
  (.reg [(none, (.mov (.tmp 1), .some 19)), (none, (.mov (.tmp 0), .some 20)), (none, (.call (.func 150) [.tmp 20], .some 21)), (none, (.bin .gtr (.tmp 19) (.tmp 21), .some 22)), (none, (.mov (.tmp 22), .some 18))] []) (.cond (.tmp 18) (.seq
  (.reg [(none, (.mov (.tmp 0), .some 23)), (none, (.mov (.tmp 0), .some 24)), (none, (.nilc (.tmp 24), .some 25)), (none, (.fadr 0 (.tmp 25), .some 26)), (none, (.load none (.tmp 26), .some 27)), (none, (.len .false (.tmp 27), .some 28)), (none, (.call (.func 97) [.tmp 23, .const (.int .i64 1), .tmp 28], .some 29))] []) (.seq
  (.reg [(none, (.mov (.const (.bool .false)), .some 4))] []) .ret)) .skip))))))) (.seq
  (.reg [(none, (.mov (.tmp 0), .some 30)), (none, (.nilc (.tmp 30), .some 31)), (none, (.fadr 1 (.tmp 31), .some 32)), (none, (.load none (.tmp 32), .some 33)), (none, (.mov (.tmp 1), .some 34)), (none, (.bin .add (.tmp 33) (.tmp 34), .some 35)), (none, (.nilc (.tmp 30), .some 36)), (none, (.fadr 1 (.tmp 36), .some 37)), (none, (.store 1 (.tmp 37) (.tmp 35), none))] []) (.seq
  (.reg [(none, (.mov (.const (.bool .true)), .some 4))] []) .ret)))
theorem b78 : Try.f78.body.bind (compC Try.prog) = some c78 := by kernel_rfl
theorem r78 : compR Try.prog Try.f78 = .some [.tmp 4] := by kernel_rfl
theorem n78 : (Try.f78.name == "runtime.NumGoroutine") = false := by kernel_rfl
def c96 : C := .seq
  (.reg [(none, (.mov (.const (.int .u8 0)), .some 2))] []) (.seq (.seq
  (.reg [(none, (.mov (.tmp 0), .some 3)), (none, (.call (.func 78) [.tmp 3, .const (.int .i64 1)], .some 4)), (none, (.un .not (.tmp 4), .some 5))] []) (.cond (.tmp 5) (.seq
  (.reg [(none, (.mov (.const (.int .u8 0)), .some 2))] []) .ret) .skip)) (.seq
  (.reg [(none, (.mov (.tmp 0), .some 6)), (none, (.nilc (.tmp 6), .some 7)), (none, (.fadr 0 (.tmp 7), .some 8)), (none, (.load none (.tmp 8), .some 9)), (none, (.mov (.tmp 0), .some 10)), (none, (.nilc (.tmp 10), .some 11)), (none, (.fadr 1 (.tmp 11), .some 12)), (none, (.load none (.tmp 12), .some 13)), (none, (.bin .sub (.tmp 13) (.const (.int .i64 1)), .some 14)), (none, (.iadr 1 (.tmp 9) (.tmp 14), .some 15)), (none, (.load none (.tmp 15), .some 16)), (none, (.mov (.tmp 16), .some 2))] [(3, 7)]) .ret))
theorem b96 : Try.f96.body.bind (compC Try.prog) = some c96 := by kernel_rfl
theorem r96 : compR Try.prog Try.f96 = .some [.tmp 2] := by kernel_rfl
theorem n96 : (Try.f96.name == "runtime.NumGoroutine") = false := by kernel_rfl
def c101 : C := .seq
  (.reg [(none, (.mov (.tmp 0), .some 2)), (none, (.call (.func 150) [.tmp 2], .some 3)), (none, (.bin .gtr (.tmp 3) (.const (.int .i64 0)), .some 4))] []) (.cond (.tmp 4)
  (.reg [(none, (.mov (.tmp 0), .some 5)), (none, (.mov (.tmp 0), .some 6)), (none, (.nilc (.tmp 6), .some 7)), (none, (.fadr 1 (.tmp 7), .some 8)), (none, (.load none (.tmp 8), .some 9)), (none, (.call (.func 97) [.tmp 5, .const (.int .i64 9), .tmp 9], .some 10))] []) .skip)
theorem b101 : Try.f101.body.bind (compC Try.prog) = some c101 := by kernel_rfl
theorem r101 : compR Try.prog Try.f101 = .some [] := by kernel_rfl
theorem n101 : (Try.f101.name == "runtime.NumGoroutine") = false := by kernel_rfl
def c107 : C := .seq
  (.reg [(none, (.box (.tmp 0), .some 1)), (none, (.new [.slice none 0 0, .int .i64 0, .int .i64 0, .int .i64 0], .some 2)), (none, (.mov (.const (.int .u64 0)), .some 3))] []) (.seq (.seq
  (.reg [(none, (.fadr 2 (.tmp 1), .some 7)), (none, (.fadr 0 (.tmp 7), .some 8)), (none, (.load none (.tmp 8), .some 9)), (none, (.bin .neq (.tmp 9) (.const (.int .i64 0)), .some 10))] []) (.cond (.tmp 10) (.seq
  (.reg [(none, (.load (.some 4) (.tmp 1), .some 11)), (none, (.store 4 (.tmp 2) (.tmp 11), none)), (none, (.mov (.const (.int .u64 0)), .some 3))] []) .ret) .skip)) (.seq
  (.reg [(none, (.fadr 0 (.tmp 1), .some 13)), (none, (.load none (.tmp 13), .some 14)), (none, (.fadr 1 (.tmp 1), .some 15)), (none, (.load none (.tmp 15), .some 16)), (none, (.slice 1 (.tmp 14) (.some (.tmp 16)) none none, .some 17)), (none, (.call (.func 167) [.tmp 17], .some 18)), (none, (.mov (.tmp 18), .some 12)), (none, (.ext (.tmp 12) 0, .some 19)), (none, (.ext (.tmp 12) 1, .some 20)), (none, (.ext (.tmp 12) 2, .some 21)), (none, (.new [.int .i64 0, .int .i64 0], .some 6)), (none, (.mov (.tmp 19), .some 4)), (none, (.mov (.tmp 20), .some 5)), (none, (.store 2 (.tmp 6) (.tmp 21), none))] []) (.seq (.seq
  (.reg [(none, (.fadr 0 (.tmp 6), .some 22)), (none, (.load none (.tmp 22), .some 23)), (none, (.bin .eql (.tmp 23) (.const (.int .i64 0)), .some 24))] []) (.cond (.tmp 24) (.seq
  (.reg [(none, (.fadr 1 (.tmp 1), .some 25)), (none, (.load none (.tmp 25), .some 26)), (none, (.mov (.tmp 5), .some 27)), (none, (.bin .add (.tmp 26) (.tmp 27), .some 28)), (none, (.fadr 1 (.tmp 1), .some 29)), (none, (.store 1 (.tmp 29) (.tmp 28), none))] []) (.seq
  (.reg [(none, (.load (.some 4) (.tmp 1), .some 30)), (none, (.mov (.tmp 4), .some 31)), (none, (.store 4 (.tmp 2) (.tmp 30), none)), (none, (.mov (.tmp 31), .some 3))] []) .ret)) .skip)) (.seq (.seq
  (.reg [(none, (.fadr 0 (.tmp 6), .some 32)), (none, (.load none (.tmp 32), .some 33)), (none, (.bin .eql (.tmp 33) (.const (.int .i64 1)), .some 34))] []) (.cond (.tmp 34)
  (.reg [(none, (.fadr 0 (.tmp 1), .some 35)), (none, (.load none (.tmp 35), .some 36)), (none, (.len .false (.tmp 36), .some 37)), (none, (.fadr 1 (.tmp 1), .some 38)), (none, (.store 1 (.tmp 38) (.tmp 37), none))] [])
  (.reg [(none, (.fadr 1 (.tmp 1), .some 39)), (none, (.load none (.tmp 39), .some 40)), (none, (.fadr 1 (.tmp 6), .some 41)), (none, (.load none (.tmp 41), .some 42)), (none, (.bin .add (.tmp 40) (.tmp 42), .some 43)), (none, (.bin .add (.tmp 43) (.const (.int .i64 1)), .some 44)), (none, (.fadr 1 (.tmp 1), .some 45)), (none, (.store 1 (.tmp 45) (.tmp 44), none))] []))) (.seq
  (.reg [(none, (.fadr 0 (.tmp 6), .some 46)), (none, (.load none (.tmp 46), .some 47)), (none, (.fadr 1 (.tmp 1), .some 48)), (none, (.load none (.tmp 48), .some 49)), (none, (.call (.func 156) [.tmp 47, .tmp 49], .some 50)), (none, (.fadr 2 (.tmp 1), .some 51)), (none, (.store 2 (.tmp 51) (.tmp 50), none))] []) (.seq (.seq
  (.reg [(none, (.fadr 0 (.tmp 6), .some 52)), (none, (.load none (.tmp 52), .some 53)), (none, (.bin .neq (.tmp 53) (.const (.int .i64 1)), .some 54))] []) (.cond (.tmp 54)
  (.reg [(none, (.fadr 1 (.tmp 1), .some 55)), (none, (.load none (.tmp 55), .some 56)), (none, (.bin .sub (.tmp 56) (.const (.int .i64 1)), .some 57)), (none, (.fadr 2 (.tmp 1), .some 58)), (none, (.fadr 1 (.tmp 58), .some 59)), (none, (.store 1 (.tmp 59) (.tmp 57), none))] []) .skip)) (.seq
  (.reg [(none, (.load (.some 4) (.tmp 1), .some 60)), (none, (.store 4 (.tmp 2) (.tmp 60), none)), (none, (.mov (.const (.int .u64 0)), .some 3))] []) .ret)))))))
theorem b107 : Try.f107.body.bind (compC Try.prog) = some c107 := by kernel_rfl
theorem r107 : compR Try.prog Try.f107 = .some [.cell 2 (.some 4), .tmp 3] := by kernel_rfl
theorem n107 : (Try.f107.name == "runtime.NumGoroutine") = false := by kernel_rfl
def c133 : C := .seq
  (.reg [(none, (.mov (.const (.bool .false)), .some 2))] []) (.seq
  (.reg [(none, (.mov (.tmp 0), .some 3)), (none, (.bin .leq (.tmp 3) (.const (.int .u64 4611686018427387903)), .some 4)), (none, (.mov (.tmp 4), .some 2))] []) .ret)
theorem b133 : Try.f133.body.bind (compC Try.prog) = some c133 := by kernel_rfl
theorem r133 : compR Try.prog Try.f133 = .some [.tmp 2] := by kernel_rfl
theorem n133 : (Try.f133.name == "runtime.NumGoroutine") = false := by kernel_rfl
def c140 : C := .block 0 (.seq
  (.reg [(none, (.mov (.tmp 0), .some 14)), (none, (.call (.func 130) [.tmp 14], .some 15)), (none, (.bin .neq (.tmp 15) (.const (.int .i64 0)), .some 16)), (none, (.mov (.tmp 16), .some 13))] []) (.cond (.tmp 13) .skip (.seq
  (.reg [(none, (.mov (.tmp 1), .some 18)), (none, (.len .false (.tmp 18), .some 19)), (none, (.mov (.tmp 0), .some 20)), (none, (.call (.func 174) [.tmp 20], .some 21)), (none, (.bin .gtr (.tmp 19) (.tmp 21), .some 22)), (none, (.mov (.tmp 22), .some 17))] []) (.cond (.tmp 17)
  (.reg [(none, (.mov (.tmp 0), .some 23)), (none, (.call (.func 126) [.tmp 23, .const (.int .i64 2)], .some 24))] [])
  (.reg [(none, (.mov (.tmp 0), .some 4)), (none, (.mov (.tmp 0), .some 5)), (none, (.nilc (.tmp 5), .some 6)), (none, (.fadr 1 (.tmp 6), .some 7)), (none, (.load none (.tmp 7), .some 8)), (none, (.mov (.tmp 1), .some 9)), (none, (.app 1 1 (.tmp 8) (.tmp 9), .some 10)), (none, (.nilc (.tmp 4), .some 11)), (none, (.fadr 1 (.tmp 11), .some 12)), (none, (.store 1 (.tmp 12) (.tmp 10), none))] [])))))
theorem b140 : Try.f140.body.bind (compC Try.prog) = some c140 := by kernel_rfl
theorem r140 : compR Try.prog Try.f140 = .some [] := by kernel_rfl
theorem n140 : (Try.f140.name == "runtime.NumGoroutine") = false := by kernel_rfl
def c150 : C := .seq
  (.reg [(none, (.mov (.const (.int .i64 0)), .some 2))] []) (.seq (.seq
  (.reg [(none, (.mov (.tmp 0), .some 3)), (none, (.eqp .false (.tmp 3) (.const (.pointer none)), .some 4))] []) (.cond (.tmp 4) (.seq
  (.reg [(none, (.mov (.const (.int .i64 0)), .some 2))] []) .ret) .skip)) (.seq
  (.reg [(none, (.mov (.tmp 0), .some 5)), (none, (.nilc (.tmp 5), .some 6)), (none, (.fadr 0 (.tmp 6), .some 7)), (none, (.load none (.tmp 7), .some 8)), (none, (.len .false (.tmp 8), .some 9)), (none, (.mov (.tmp 0), .some 10)), (none, (.nilc (.tmp 10), .some 11)), (none, (.fadr 1 (.tmp 11), .some 12)), (none, (.load none (.tmp 12), .some 13)), (none, (.bin .sub (.tmp 9) (.tmp 13), .some 14)), (none, (.mov (.tmp 14), .some 2))] [(3, 8)]) .ret))
theorem b150 : Try.f150.body.bind (compC Try.prog) = some c150 := by kernel_rfl
theorem r150 : compR Try.prog Try.f150 = .some [.tmp 2] := by kernel_rfl
theorem n150 : (Try.f150.name == "runtime.NumGoroutine") = false := by kernel_rfl
def c175 : C := .seq
  (.reg [(none, (.mov (.const (.int .u32 0)), .some 2))] []) (.seq
  (.reg [(none, (.mov (.tmp 0), .some 3)), (none, (.un .xor (.tmp 3), .some 4)), (none, (.mov (.tmp 4), .some 2))] []) .ret)
theorem b175 : Try.f175.body.bind (compC Try.prog) = some c175 := by kernel_rfl
theorem r175 : compR Try.prog Try.f175 = .some [.tmp 2] := by kernel_rfl
theorem n175 : (Try.f175.name == "runtime.NumGoroutine") = false := by kernel_rfl
def c196 : C := .seq
  (.reg [(none, (.mov (.const (.int .u32 0)), .some 2))] []) (.seq (.seq
  (.reg [(none, (.mov (.tmp 0), .some 3)), (none, (.bin .and (.tmp 3) (.const (.int .u32 1)), .some 4)), (none, (.bin .eql (.tmp 4) (.const (.int .u32 1)), .some 5))] []) (.cond (.tmp 5) (.seq
  (.reg [(none, (.mov (.tmp 0), .some 6)), (none, (.bin .shr (.tmp 6) (.const (.int .u64 1)), .some 7)), (none, (.bin .xor (.tmp 7) (.const (.int .u32 2197175160)), .some 8)), (none, (.mov (.tmp 8), .some 2))] []) .ret) .skip)) (.seq
  (.reg [(none, (.mov (.tmp 0), .some 9)), (none, (.bin .shr (.tmp 9) (.const (.int .u64 1)), .some 10)), (none, (.mov (.tmp 10), .some 2))] []) .ret))
theorem b196 : Try.f196.body.bind (compC Try.prog) = some c196 := by kernel_rfl
theorem r196 : compR Try.prog Try.f196 = .some [.tmp 2] := by kernel_rfl
theorem n196 : (Try.f196.name == "runtime.NumGoroutine") = false := by kernel_rfl
end Go.Proofs.Ytkhnfleejgfhgaa
