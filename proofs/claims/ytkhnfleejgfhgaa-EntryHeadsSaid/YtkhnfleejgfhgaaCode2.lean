/-
  The codes of the seat's functions over abstract values, each shown to be its function's own (by program: wip/tools/codes.py).
-/
import Derived.Test.YtkhnfleejgfhgaaA2
import Derived.Test.YtkhnfleejgfhgaaProg
import Derived.KernelRfl
namespace Go.Proofs.Ytkhnfleejgfhgaa
def c39 : C := .seq
  (.reg [(none, (.mov (.const (.bool .false)), .some 4))] []) (.seq (.seq
  (.reg [(none, (.mov (.tmp 1), .some 6)), (none, (.len .false (.tmp 6), .some 7)), (none, (.bin .gtr (.tmp 7) (.const (.int .i64 16)), .some 8))] []) (.cond (.tmp 8) (.seq
  (.reg [(none, (.mov (.const (.bool .false)), .some 4))] []) .ret) .skip)) (.seq (.seq
  (.reg [(none, (.mov (.const (.int .i64 0)), .some 5))] []) (.block 0 (.loop (.seq (.seq
  (.reg [(none, (.mov (.tmp 5), .some 9)), (none, (.mov (.tmp 1), .some 10)), (none, (.len .false (.tmp 10), .some 11)), (none, (.bin .lss (.tmp 9) (.tmp 11), .some 12))] []) (.cond (.tmp 12) .skip (.exit 0))) (.seq (.block 1 (.seq
  (.reg [(none, (.mov (.tmp 5), .some 15)), (none, (.bin .gtr (.tmp 15) (.const (.int .i64 0)), .some 16)), (none, (.mov (.tmp 16), .some 17)), (.some (17, .true), (.mov (.tmp 1), .some 18)), (.some (17, .true), (.mov (.tmp 5), .some 19)), (.some (17, .true), (.iadr 2 (.tmp 18) (.tmp 19), .some 20)), (.some (17, .true), (.fadr 0 (.tmp 20), .some 21)), (.some (17, .true), (.load none (.tmp 21), .some 22)), (.some (17, .true), (.mov (.tmp 1), .some 23)), (.some (17, .true), (.mov (.tmp 5), .some 24)), (.some (17, .true), (.bin .sub (.tmp 24) (.const (.int .i64 1)), .some 25)), (.some (17, .true), (.iadr 2 (.tmp 23) (.tmp 25), .some 26)), (.some (17, .true), (.fadr 0 (.tmp 26), .some 27)), (.some (17, .true), (.load none (.tmp 27), .some 28)), (.some (17, .true), (.bin .leq (.tmp 22) (.tmp 28), .some 29)), (none, (.pick (.tmp 17) (.tmp 29) (.const (.bool .false)), .some 30)), (none, (.mov (.tmp 30), .some 31)), (.some (31, .false), (.mov (.tmp 1), .some 32)), (.some (31, .false), (.mov (.tmp 5), .some 33)), (.some (31, .false), (.iadr 2 (.tmp 32) (.tmp 33), .some 34)), (.some (31, .false), (.fadr 1 (.tmp 34), .some 35)), (.some (31, .false), (.load none (.tmp 35), .some 36)), (.some (31, .false), (.len .false (.tmp 36), .some 37)), (.some (31, .false), (.bin .gtr (.tmp 37) (.const (.int .i64 4)), .some 38)), (none, (.pick (.tmp 31) (.const (.bool .true)) (.tmp 38), .some 39)), (none, (.mov (.tmp 39), .some 40)), (.some (40, .false), (.mov (.tmp 0), .some 41)), (.some (40, .false), (.mov (.tmp 1), .some 42)), (.some (40, .false), (.mov (.tmp 5), .some 43)), (.some (40, .false), (.iadr 2 (.tmp 42) (.tmp 43), .some 44)), (.some (40, .false), (.fadr 1 (.tmp 44), .some 45)), (.some (40, .false), (.load none (.tmp 45), .some 46)), (.some (40, .false), (.call (.func 111) [.tmp 41, .tmp 46], .some 47)), (.some (40, .false), (.un .not (.tmp 47), .some 48)), (none, (.pick (.tmp 40) (.const (.bool .true)) (.tmp 48), .some 49))] [(7, 13)]) (.cond (.tmp 49) (.seq
  (.reg [(none, (.mov (.const (.bool .false)), .some 4))] []) .ret) .skip)))
  (.reg [(none, (.mov (.tmp 5), .some 13)), (none, (.bin .add (.tmp 13) (.const (.int .i64 1)), .some 14)), (none, (.mov (.tmp 14), .some 5))] [])))))) (.seq
  (.reg [(none, (.mov (.const (.bool .true)), .some 4))] []) .ret)))
theorem b39 : Try.f39.body.bind (compC Try.prog) = some c39 := by kernel_rfl
theorem r39 : compR Try.prog Try.f39 = .some [.tmp 4] := by kernel_rfl
theorem n39 : (Try.f39.name == "runtime.NumGoroutine") = false := by kernel_rfl
def c41 : C := .seq
  (.reg [(none, (.box (.tmp 0), .some 2)), (none, (.mov (.const (.bool .false)), .some 4))] []) (.seq (.seq
  (.reg [(none, (.mov (.tmp 1), .some 6)), (none, (.len .false (.tmp 6), .some 7)), (none, (.bin .gtr (.tmp 7) (.const (.int .i64 16)), .some 8)), (none, (.mov (.tmp 8), .some 9)), (.some (9, .false), (.mov (.tmp 1), .some 10)), (.some (9, .false), (.call (.func 113) [.tmp 10, .func 114], .some 11)), (.some (9, .false), (.un .not (.tmp 11), .some 12)), (none, (.pick (.tmp 9) (.const (.bool .true)) (.tmp 12), .some 13))] []) (.cond (.tmp 13) (.seq
  (.reg [(none, (.mov (.const (.bool .false)), .some 4))] []) .ret) .skip)) (.seq
  (.reg [(none, (.mkf 115 [] [.tmp 2], .some 14)), (none, (.mov (.tmp 14), .some 5))] []) (.seq
  (.reg [(none, (.mov (.tmp 1), .some 15)), (none, (.mov (.tmp 5), .some 16)), (none, (.call (.func 117) [.tmp 15, .tmp 16], .some 17)), (none, (.mov (.tmp 1), .some 18)), (none, (.len .false (.tmp 18), .some 19)), (none, (.bin .eql (.tmp 17) (.tmp 19), .some 20)), (none, (.mov (.tmp 20), .some 4))] []) .ret)))
theorem b41 : Try.f41.body.bind (compC Try.prog) = some c41 := by kernel_rfl
theorem r41 : compR Try.prog Try.f41 = .some [.tmp 4] := by kernel_rfl
theorem n41 : (Try.f41.name == "runtime.NumGoroutine") = false := by kernel_rfl
def c46 : C := .seq
  (.reg [(none, (.box (.tmp 0), .some 2)), (none, (.new [.slice none 0 0, .int .i64 0, .int .i64 0, .int .i64 0], .some 4)), (none, (.mov (.const (.slice none 0 0)), .some 5))] []) (.seq
  (.reg [(none, (.load (.some 4) (.tmp 2), .some 16)), (none, (.call (.func 106) [.tmp 16, .const (.int .i64 16)], .some 17)), (none, (.mov (.tmp 17), .some 15)), (none, (.ext (.tmp 15) 0, .some 18)), (none, (.ext (.tmp 15) 1, .some 19)), (none, (.new [.slice none 0 0, .int .i64 0, .int .i64 0, .int .i64 0], .some 6)), (none, (.store 4 (.tmp 6) (.tmp 18), none)), (none, (.mov (.tmp 19), .some 7))] []) (.seq
  (.reg [(none, (.mov (.const (.slice none 0 0)), .some 8))] []) (.seq (.seq
  (.reg [(none, (.mov (.const (.int .i64 0)), .some 9))] []) (.block 0 (.loop (.seq (.seq
  (.reg [(none, (.mov (.tmp 9), .some 20)), (none, (.mov (.tmp 7), .some 21)), (none, (.bin .lss (.tmp 20) (.tmp 21), .some 22)), (none, (.mov (.tmp 22), .some 23)), (.some (23, .true), (.fadr 2 (.tmp 6), .some 24)), (.some (23, .true), (.fadr 0 (.tmp 24), .some 25)), (.some (23, .true), (.load none (.tmp 25), .some 26)), (.some (23, .true), (.bin .eql (.tmp 26) (.const (.int .i64 0)), .some 27)), (none, (.pick (.tmp 23) (.tmp 27) (.const (.bool .false)), .some 28))] []) (.cond (.tmp 28) .skip (.exit 0))) (.seq (.block 1 (.seq
  (.reg [(none, (.load (.some 4) (.tmp 6), .some 32)), (none, (.call (.func 107) [.tmp 32], .some 33)), (none, (.mov (.tmp 33), .some 31)), (none, (.ext (.tmp 31) 0, .some 34)), (none, (.ext (.tmp 31) 1, .some 35)), (none, (.new [.slice none 0 0, .int .i64 0, .int .i64 0, .int .i64 0], .some 10)), (none, (.store 4 (.tmp 10) (.tmp 34), none)), (none, (.mov (.tmp 35), .some 11))] []) (.seq (.seq
  (.reg [(none, (.mov (.tmp 9), .some 36)), (none, (.bin .gtr (.tmp 36) (.const (.int .i64 0)), .some 37)), (none, (.mov (.tmp 37), .some 38)), (.some (38, .true), (.fadr 2 (.tmp 10), .some 39)), (.some (38, .true), (.fadr 0 (.tmp 39), .some 40)), (.some (38, .true), (.load none (.tmp 40), .some 41)), (.some (38, .true), (.bin .eql (.tmp 41) (.const (.int .i64 0)), .some 42)), (none, (.pick (.tmp 38) (.tmp 42) (.const (.bool .false)), .some 43))] []) (.cond (.tmp 43) (.seq
  (.reg [(none, (.mov (.tmp 8), .some 44)), (none, (.mov (.tmp 9), .some 45)), (none, (.bin .sub (.tmp 45) (.const (.int .i64 1)), .some 46)), (none, (.iadr 2 (.tmp 44) (.tmp 46), .some 47)), (none, (.fadr 0 (.tmp 47), .some 48)), (none, (.load none (.tmp 48), .some 49)), (none, (.mov (.tmp 49), .some 12))] []) (.seq (.seq
  (.reg [(none, (.mov (.tmp 11), .some 50)), (none, (.mov (.tmp 12), .some 51)), (none, (.bin .sub (.const (.int .u64 18446744073709551615)) (.tmp 51), .some 52)), (none, (.bin .gtr (.tmp 50) (.tmp 52), .some 53)), (none, (.mov (.tmp 53), .some 54)), (.some (54, .false), (.mov (.tmp 11), .some 55)), (.some (54, .false), (.mov (.tmp 12), .some 56)), (.some (54, .false), (.bin .sub (.const (.int .u64 18446744073709551615)) (.tmp 56), .some 57)), (.some (54, .false), (.bin .eql (.tmp 55) (.tmp 57), .some 58)), (none, (.pick (.tmp 54) (.const (.bool .true)) (.tmp 58), .some 59))] []) (.cond (.tmp 59)
  (.reg [(none, (.load (.some 4) (.tmp 10), .some 60)), (none, (.fadr 1 (.tmp 6), .some 61)), (none, (.load none (.tmp 61), .some 62)), (none, (.call (.func 104) [.tmp 60, .const (.int .i64 13), .tmp 62], .some 63)), (none, (.store 4 (.tmp 10) (.tmp 63), none))] []) .skip))
  (.reg [(none, (.mov (.tmp 12), .some 64)), (none, (.mov (.tmp 11), .some 65)), (none, (.bin .add (.tmp 64) (.tmp 65), .some 66)), (none, (.bin .add (.tmp 66) (.const (.int .u64 1)), .some 67)), (none, (.mov (.tmp 67), .some 11))] []))) .skip)) (.seq
  (.reg [(none, (.load (.some 4) (.tmp 10), .some 69)), (none, (.mov (.tmp 1), .some 70)), (none, (.call (.func 123) [.tmp 69, .tmp 70, .const (.int .i64 4)], .some 71)), (none, (.mov (.tmp 71), .some 68)), (none, (.ext (.tmp 68) 0, .some 72)), (none, (.ext (.tmp 68) 1, .some 73)), (none, (.new [.slice none 0 0, .int .i64 0, .int .i64 0, .int .i64 0], .some 13)), (none, (.store 4 (.tmp 13) (.tmp 72), none)), (none, (.mov (.tmp 73), .some 14))] []) (.seq
  (.reg [(none, (.mov (.tmp 8), .some 74)), (none, (.mov (.tmp 11), .some 75)), (none, (.mov (.tmp 14), .some 76)), (none, (.build [.int .u64 0, .slice none 0 0] [(0, (1, .tmp 75)), (1, (1, .tmp 76))], .some 77)), (none, (.bsl 2 [.tmp 77], .some 78)), (none, (.app 2 32 (.tmp 74) (.tmp 78), .some 79)), (none, (.mov (.tmp 79), .some 8))] [])
  (.reg [(none, (.load (.some 4) (.tmp 13), .some 80)), (none, (.store 4 (.tmp 6) (.tmp 80), none))] []))))))
  (.reg [(none, (.mov (.tmp 9), .some 29)), (none, (.bin .add (.tmp 29) (.const (.int .i64 1)), .some 30)), (none, (.mov (.tmp 30), .some 9))] [])))))) (.seq (.seq
  (.reg [(none, (.fadr 2 (.tmp 6), .some 81)), (none, (.fadr 0 (.tmp 81), .some 82)), (none, (.load none (.tmp 82), .some 83)), (none, (.bin .neq (.tmp 83) (.const (.int .i64 0)), .some 84))] []) (.cond (.tmp 84) (.seq
  (.reg [(none, (.load (.some 4) (.tmp 6), .some 85)), (none, (.store 4 (.tmp 4) (.tmp 85), none)), (none, (.mov (.const (.slice none 0 0)), .some 5))] []) .ret) .skip)) (.seq
  (.reg [(none, (.load (.some 4) (.tmp 6), .some 86)), (none, (.mov (.tmp 8), .some 87)), (none, (.store 4 (.tmp 4) (.tmp 86), none)), (none, (.mov (.tmp 87), .some 5))] []) .ret)))))
theorem b46 : Try.f46.body.bind (compC Try.prog) = some c46 := by kernel_rfl
theorem r46 : compR Try.prog Try.f46 = .some [.cell 4 (.some 4), .tmp 5] := by kernel_rfl
theorem n46 : (Try.f46.name == "runtime.NumGoroutine") = false := by kernel_rfl
def c55 : C := .seq
  (.reg [(none, (.mov (.const (.slice none 0 0)), .some 2)), (none, (.mov (.const (.int .i64 0)), .some 3))] []) (.seq (.seq
  (.reg [(none, (.mov (.tmp 0), .some 5)), (none, (.call (.func 130) [.tmp 5], .some 6)), (none, (.mov (.tmp 6), .some 4))] []) (.seq
  (.reg [(none, (.mov (.tmp 4), .some 7)), (none, (.bin .neq (.tmp 7) (.const (.int .i64 0)), .some 8))] []) (.cond (.tmp 8) (.seq
  (.reg [(none, (.mov (.tmp 4), .some 9)), (none, (.mov (.const (.slice none 0 0)), .some 2)), (none, (.mov (.tmp 9), .some 3))] []) .ret) .skip))) (.seq
  (.reg [(none, (.bsl 1 [], .some 10)), (none, (.mov (.tmp 0), .some 11)), (none, (.nilc (.tmp 11), .some 12)), (none, (.fadr 1 (.tmp 12), .some 13)), (none, (.load none (.tmp 13), .some 14)), (none, (.app 1 1 (.tmp 10) (.tmp 14), .some 15)), (none, (.mov (.tmp 15), .some 2)), (none, (.mov (.const (.int .i64 0)), .some 3))] []) .ret))
theorem b55 : Try.f55.body.bind (compC Try.prog) = some c55 := by kernel_rfl
theorem r55 : compR Try.prog Try.f55 = .some [.tmp 2, .tmp 3] := by kernel_rfl
theorem n55 : (Try.f55.name == "runtime.NumGoroutine") = false := by kernel_rfl
def c78 : C := .seq
  (.reg [(none, (.mov (.const (.bool .false)), .some 4))] []) (.seq (.block 0 (.seq
  (.reg [(none, (.mov (.tmp 0), .some 6)), (none, (.call (.func 57) [.tmp 6], .some 7)), (none, (.un .not (.tmp 7), .some 8)), (none, (.mov (.tmp 8), .some 5))] []) (.cond (.tmp 5) (.seq
  (.reg [(none, (.mov (.const (.bool .false)), .some 4))] []) .ret) (.seq
  (.reg [(none, (.mov (.tmp 1), .some 10)), (none, (.bin .lss (.tmp 10) (.const (.int .i64 0)), .some 11)), (none, (.mov (.tmp 11), .some 9))] []) (.cond (.tmp 9) (.seq
  (.reg [(none, (.mov (.tmp 0), .some 12)), (none, (.mov (.tmp 0), .some 13)), (none, (.nilc (.tmp 13), .some 14)), (none, (.fadr 1 (.tmp 14), .some 15)), (none, (.load none (.tmp 15), .some 16)), (none, (.call (.func 97) [.tmp 12, .const (.int .i64 17), .tmp 16], .some 17))] []) (.seq
  (.reg [(none, (.mov (.const (.bool .false)), .some 4))] []) .ret)) (.seq
  (.reg [(none, (.mov (.tmp 1), .some 19)), (none, (.mov (.tmp 0), .some 20)), (none, (.call (.func 150) [.tmp 20], .some 21)), (none, (.bin .gtr (.tmp 19) (.tmp 21), .some 22)), (none, (.mov (.tmp 22), .some 18))] []) (.cond (.tmp 18) (.seq
  (.reg [(none, (.mov (.tmp 0), .some 23)), (none, (.mov (.tmp 0), .some 24)), (none, (.nilc (.tmp 24), .some 25)), (none, (.fadr 0 (.tmp 25), .some 26)), (none, (.load none (.tmp 26), .some 27)), (none, (.len .false (.tmp 27), .some 28)), (none, (.call (.func 97) [.tmp 23, .const (.int .i64 1), .tmp 28], .some 29))] []) (.seq
  (.reg [(none, (.mov (.const (.bool .false)), .some 4))] []) .ret)) .skip))))))) (.seq
  (.reg [(none, (.mov (.tmp 0), .some 30)), (none, (.nilc (.tmp 30), .some 31)), (none, (.fadr 1 (.tmp 31), .some 32)), (none, (.load none (.tmp 32), .some 33)), (none, (.mov (.tmp 1), .some 34)), (none, (.bin .add (.tmp 33) (.tmp 34), .some 35)), (none, (.nilc (.tmp 30), .some 36)), (none, (.fadr 1 (.tmp 36), .some 37)), (none, (.store 1 (.tmp 37) (.tmp 35), none))] []) (.seq
  (.reg [(none, (.mov (.const (.bool .true)), .some 4))] []) .ret)))
theorem b78 : Try.f78.body.bind (compC Try.prog) = some c78 := by kernel_rfl
theorem r78 : compR Try.prog Try.f78 = .some [.tmp 4] := by kernel_rfl
theorem n78 : (Try.f78.name == "runtime.NumGoroutine") = false := by kernel_rfl
def c83 : C := .seq
  (.reg [(none, (.box (.tmp 1), .some 3)), (none, (.mov (.const (.int .i64 0)), .some 4))] []) (.seq (.seq
  (.reg [(none, (.mov (.tmp 0), .some 5)), (none, (.load (.some 2) (.tmp 3), .some 6)), (none, (.call (.func 81) [.tmp 5, .tmp 6], .some 7)), (none, (.un .not (.tmp 7), .some 8))] []) (.cond (.tmp 8) (.seq
  (.reg [(none, (.mov (.const (.int .i64 0)), .some 4))] []) .ret) .skip)) (.seq
  (.reg [(none, (.mov (.tmp 0), .some 9)), (none, (.fadr 0 (.tmp 3), .some 10)), (none, (.load none (.tmp 10), .some 11)), (none, (.call (.func 56) [.tmp 9, .tmp 11], .some 12)), (none, (.fadr 1 (.tmp 3), .some 13)), (none, (.load none (.tmp 13), .some 14)), (none, (.len .false (.tmp 14), .some 15)), (none, (.cvt .u64 (.tmp 15), .some 16)), (none, (.call (.func 131) [.tmp 16], .some 17)), (none, (.bin .add (.tmp 12) (.tmp 17), .some 18)), (none, (.mov (.tmp 18), .some 4))] [(2, 5), (3, 5)]) .ret))
theorem b83 : Try.f83.body.bind (compC Try.prog) = some c83 := by kernel_rfl
theorem r83 : compR Try.prog Try.f83 = .some [.tmp 4] := by kernel_rfl
theorem n83 : (Try.f83.name == "runtime.NumGoroutine") = false := by kernel_rfl
def c97 : C := .seq
  (.reg [(none, (.mov (.tmp 0), .some 6)), (none, (.call (.func 57) [.tmp 6], .some 7))] []) (.cond (.tmp 7)
  (.reg [(none, (.mov (.tmp 0), .some 8)), (none, (.mov (.tmp 1), .some 9)), (none, (.mov (.tmp 2), .some 10)), (none, (.call (.func 124) [.tmp 9, .tmp 10], .some 11)), (none, (.nilc (.tmp 8), .some 12)), (none, (.fadr 2 (.tmp 12), .some 13)), (none, (.store 2 (.tmp 13) (.tmp 11), none))] []) .skip)
theorem b97 : Try.f97.body.bind (compC Try.prog) = some c97 := by kernel_rfl
theorem r97 : compR Try.prog Try.f97 = .some [] := by kernel_rfl
theorem n97 : (Try.f97.name == "runtime.NumGoroutine") = false := by kernel_rfl
def c104 : C := .seq
  (.reg [(none, (.box (.tmp 0), .some 3)), (none, (.new [.slice none 0 0, .int .i64 0, .int .i64 0, .int .i64 0], .some 6))] []) (.seq (.seq
  (.reg [(none, (.fadr 2 (.tmp 3), .some 7)), (none, (.fadr 0 (.tmp 7), .some 8)), (none, (.load none (.tmp 8), .some 9)), (none, (.bin .eql (.tmp 9) (.const (.int .i64 0)), .some 10))] []) (.cond (.tmp 10)
  (.reg [(none, (.mov (.tmp 1), .some 11)), (none, (.mov (.tmp 2), .some 12)), (none, (.call (.func 156) [.tmp 11, .tmp 12], .some 13)), (none, (.fadr 2 (.tmp 3), .some 14)), (none, (.store 2 (.tmp 14) (.tmp 13), none))] []) .skip)) (.seq
  (.reg [(none, (.load (.some 4) (.tmp 3), .some 15)), (none, (.store 4 (.tmp 6) (.tmp 15), none))] []) .ret))
theorem b104 : Try.f104.body.bind (compC Try.prog) = some c104 := by kernel_rfl
theorem r104 : compR Try.prog Try.f104 = .some [.cell 6 (.some 4)] := by kernel_rfl
theorem n104 : (Try.f104.name == "runtime.NumGoroutine") = false := by kernel_rfl
def c123 : C := .seq
  (.reg [(none, (.box (.tmp 0), .some 3)), (none, (.new [.slice none 0 0, .int .i64 0, .int .i64 0, .int .i64 0], .some 6)), (none, (.mov (.const (.slice none 0 0)), .some 7))] []) (.seq
  (.reg [(none, (.load (.some 4) (.tmp 3), .some 15)), (none, (.mov (.tmp 2), .some 16)), (none, (.call (.func 106) [.tmp 15, .tmp 16], .some 17)), (none, (.mov (.tmp 17), .some 14)), (none, (.ext (.tmp 14) 0, .some 18)), (none, (.ext (.tmp 14) 1, .some 19)), (none, (.new [.slice none 0 0, .int .i64 0, .int .i64 0, .int .i64 0], .some 8)), (none, (.store 4 (.tmp 8) (.tmp 18), none)), (none, (.mov (.tmp 19), .some 9))] []) (.seq
  (.reg [(none, (.mov (.const (.slice none 0 0)), .some 10))] []) (.seq (.seq
  (.reg [(none, (.mov (.const (.int .i64 0)), .some 11))] []) (.block 0 (.loop (.seq (.seq
  (.reg [(none, (.mov (.tmp 11), .some 20)), (none, (.mov (.tmp 9), .some 21)), (none, (.bin .lss (.tmp 20) (.tmp 21), .some 22)), (none, (.mov (.tmp 22), .some 23)), (.some (23, .true), (.fadr 2 (.tmp 8), .some 24)), (.some (23, .true), (.fadr 0 (.tmp 24), .some 25)), (.some (23, .true), (.load none (.tmp 25), .some 26)), (.some (23, .true), (.bin .eql (.tmp 26) (.const (.int .i64 0)), .some 27)), (none, (.pick (.tmp 23) (.tmp 27) (.const (.bool .false)), .some 28))] []) (.cond (.tmp 28) .skip (.exit 0))) (.seq (.block 1 (.seq
  (.reg [(none, (.load (.some 4) (.tmp 8), .some 32)), (none, (.call (.func 107) [.tmp 32], .some 33)), (none, (.mov (.tmp 33), .some 31)), (none, (.ext (.tmp 31) 0, .some 34)), (none, (.ext (.tmp 31) 1, .some 35)), (none, (.new [.slice none 0 0, .int .i64 0, .int .i64 0, .int .i64 0], .some 12)), (none, (.store 4 (.tmp 12) (.tmp 34), none)), (none, (.mov (.tmp 35), .some 13))] []) (.seq (.seq
  (.reg [(none, (.fadr 2 (.tmp 12), .some 36)), (none, (.fadr 0 (.tmp 36), .some 37)), (none, (.load none (.tmp 37), .some 38)), (none, (.bin .eql (.tmp 38) (.const (.int .i64 0)), .some 39)), (none, (.mov (.tmp 39), .some 40)), (.some (40, .true), (.mov (.tmp 13), .some 41)), (.some (40, .true), (.mov (.tmp 1), .some 42)), (.some (40, .true), (.bin .geq (.tmp 41) (.tmp 42), .some 43)), (none, (.pick (.tmp 40) (.tmp 43) (.const (.bool .false)), .some 44))] []) (.cond (.tmp 44)
  (.reg [(none, (.load (.some 4) (.tmp 12), .some 45)), (none, (.fadr 1 (.tmp 8), .some 46)), (none, (.load none (.tmp 46), .some 47)), (none, (.call (.func 104) [.tmp 45, .const (.int .i64 13), .tmp 47], .some 48)), (none, (.store 4 (.tmp 12) (.tmp 48), none))] []) .skip)) (.seq
  (.reg [(none, (.mov (.tmp 1), .some 49)), (none, (.mov (.tmp 13), .some 50)), (none, (.bin .sub (.tmp 49) (.tmp 50), .some 51)), (none, (.bin .sub (.tmp 51) (.const (.int .u64 1)), .some 52)), (none, (.mov (.tmp 52), .some 1))] []) (.seq
  (.reg [(none, (.mov (.tmp 10), .some 53)), (none, (.mov (.tmp 1), .some 54)), (none, (.bsl 1 [.tmp 54], .some 55)), (none, (.app 1 8 (.tmp 53) (.tmp 55), .some 56)), (none, (.mov (.tmp 56), .some 10))] [])
  (.reg [(none, (.load (.some 4) (.tmp 12), .some 57)), (none, (.store 4 (.tmp 8) (.tmp 57), none))] []))))))
  (.reg [(none, (.mov (.tmp 11), .some 29)), (none, (.bin .add (.tmp 29) (.const (.int .i64 1)), .some 30)), (none, (.mov (.tmp 30), .some 11))] [])))))) (.seq (.seq
  (.reg [(none, (.fadr 2 (.tmp 8), .some 58)), (none, (.fadr 0 (.tmp 58), .some 59)), (none, (.load none (.tmp 59), .some 60)), (none, (.bin .neq (.tmp 60) (.const (.int .i64 0)), .some 61))] []) (.cond (.tmp 61) (.seq
  (.reg [(none, (.load (.some 4) (.tmp 8), .some 62)), (none, (.store 4 (.tmp 6) (.tmp 62), none)), (none, (.mov (.const (.slice none 0 0)), .some 7))] []) .ret) .skip)) (.seq
  (.reg [(none, (.load (.some 4) (.tmp 8), .some 63)), (none, (.mov (.tmp 10), .some 64)), (none, (.store 4 (.tmp 6) (.tmp 63), none)), (none, (.mov (.tmp 64), .some 7))] []) .ret)))))
theorem b123 : Try.f123.body.bind (compC Try.prog) = some c123 := by kernel_rfl
theorem r123 : compR Try.prog Try.f123 = .some [.cell 6 (.some 4), .tmp 7] := by kernel_rfl
theorem n123 : (Try.f123.name == "runtime.NumGoroutine") = false := by kernel_rfl
def c124 : C := .seq
  (.reg [(none, (.new [.int .i64 0, .int .i64 0], .some 4))] []) (.seq (.seq
  (.reg [(none, (.mov (.tmp 0), .some 5)), (none, (.bin .eql (.tmp 5) (.const (.int .i64 0)), .some 6))] []) (.cond (.tmp 6) (.seq
  (.reg [(none, (.build [.int .i64 0, .int .i64 0] [], .some 7)), (none, (.store 2 (.tmp 4) (.tmp 7), none))] []) .ret) .skip)) (.seq
  (.reg [(none, (.mov (.tmp 0), .some 8)), (none, (.mov (.tmp 1), .some 9)), (none, (.build [.int .i64 0, .int .i64 0] [(0, (1, .tmp 8)), (1, (1, .tmp 9))], .some 10)), (none, (.store 2 (.tmp 4) (.tmp 10), none))] []) .ret))
theorem b124 : Try.f124.body.bind (compC Try.prog) = some c124 := by kernel_rfl
theorem r124 : compR Try.prog Try.f124 = .some [.cell 4 (.some 2)] := by kernel_rfl
theorem n124 : (Try.f124.name == "runtime.NumGoroutine") = false := by kernel_rfl
def c128 : C := .seq
  (.reg [(none, (.mov (.const (.slice none 0 0)), .some 2))] []) (.seq
  (.reg [(none, (.mov (.const (.slice none 0 0)), .some 3))] []) (.seq (.seq
  (.reg [(none, (.mov (.tmp 0), .some 7)), (none, (.len .false (.tmp 7), .some 8)), (none, (.mov (.const (.int .i64 0)), .some 9))] []) (.block 0 (.loop (.seq
  (.reg [(none, (.bin .lss (.tmp 9) (.tmp 8), .some 10))] []) (.seq (.cond (.tmp 10) .skip (.exit 0)) (.seq (.block 1 (.seq
  (.reg [(none, (.mov (.tmp 9), .some 11)), (none, (.iadr 2 (.tmp 7) (.tmp 9), .some 12)), (none, (.load (.some 2) (.tmp 12), .some 13)), (none, (.new [.int .u64 0, .slice none 0 0], .some 5)), (none, (.mov (.tmp 11), .some 4)), (none, (.store 2 (.tmp 5) (.tmp 13), none))] []) (.seq
  (.reg [(none, (.fadr 0 (.tmp 5), .some 14)), (none, (.load none (.tmp 14), .some 15)), (none, (.mov (.tmp 15), .some 6))] []) (.seq (.seq
  (.reg [(none, (.mov (.tmp 4), .some 16)), (none, (.bin .gtr (.tmp 16) (.const (.int .i64 0)), .some 17))] []) (.cond (.tmp 17)
  (.reg [(none, (.mov (.tmp 6), .some 18)), (none, (.mov (.tmp 0), .some 19)), (none, (.mov (.tmp 4), .some 20)), (none, (.bin .sub (.tmp 20) (.const (.int .i64 1)), .some 21)), (none, (.iadr 2 (.tmp 19) (.tmp 21), .some 22)), (none, (.fadr 0 (.tmp 22), .some 23)), (none, (.load none (.tmp 23), .some 24)), (none, (.bin .add (.tmp 24) (.const (.int .u64 1)), .some 25)), (none, (.bin .sub (.tmp 18) (.tmp 25), .some 26)), (none, (.mov (.tmp 26), .some 6))] []) .skip))
  (.reg [(none, (.mov (.tmp 3), .some 27)), (none, (.mov (.tmp 6), .some 28)), (none, (.bsl 1 [.tmp 28], .some 29)), (none, (.app 1 8 (.tmp 27) (.tmp 29), .some 30)), (none, (.mov (.tmp 30), .some 3))] [])))))
  (.reg [(none, (.bin .add (.tmp 9) (.const (.int .i64 1)), .some 31)), (none, (.mov (.tmp 31), .some 9))] []))))))) (.seq
  (.reg [(none, (.mov (.tmp 3), .some 32)), (none, (.mov (.tmp 32), .some 2))] []) .ret)))
theorem b128 : Try.f128.body.bind (compC Try.prog) = some c128 := by kernel_rfl
theorem r128 : compR Try.prog Try.f128 = .some [.tmp 2] := by kernel_rfl
theorem n128 : (Try.f128.name == "runtime.NumGoroutine") = false := by kernel_rfl
def c129 : C := .seq
  (.reg [(none, (.mov (.tmp 1), .some 11)), (none, (.mov (.tmp 2), .some 12)), (none, (.call (.func 168) [.tmp 11, .tmp 12], .some 13)), (none, (.mov (.tmp 13), .some 10)), (none, (.ext (.tmp 10) 0, .some 14)), (none, (.ext (.tmp 10) 1, .some 15)), (none, (.mov (.tmp 14), .some 6)), (none, (.mov (.tmp 15), .some 7))] []) (.seq (.seq
  (.reg [(none, (.mov (.tmp 7), .some 16)), (none, (.un .not (.tmp 16), .some 17))] []) (.cond (.tmp 17) (.seq
  (.reg [(none, (.mov (.tmp 0), .some 18)), (none, (.call (.func 126) [.tmp 18, .const (.int .i64 3)], .some 19))] []) .ret) .skip)) (.seq
  (.reg [(none, (.mov (.tmp 0), .some 20)), (none, (.mov (.tmp 2), .some 21)), (none, (.len .false (.tmp 21), .some 22)), (none, (.cvt .u64 (.tmp 22), .some 23)), (none, (.call (.func 127) [.tmp 20, .tmp 23], .some 24))] []) (.seq
  (.reg [(none, (.mov (.tmp 6), .some 25)), (none, (.len .false (.tmp 25), .some 26)), (none, (.mov (.const (.int .i64 0)), .some 27))] []) (.block 0 (.loop (.seq
  (.reg [(none, (.bin .lss (.tmp 27) (.tmp 26), .some 28))] []) (.seq (.cond (.tmp 28) .skip (.exit 0)) (.seq (.block 1 (.seq
  (.reg [(none, (.iadr 1 (.tmp 25) (.tmp 27), .some 29)), (none, (.load none (.tmp 29), .some 30)), (none, (.mov (.tmp 30), .some 9))] [])
  (.reg [(none, (.mov (.tmp 0), .some 31)), (none, (.mov (.tmp 9), .some 32)), (none, (.call (.func 127) [.tmp 31, .tmp 32], .some 33))] [])))
  (.reg [(none, (.bin .add (.tmp 27) (.const (.int .i64 1)), .some 34)), (none, (.mov (.tmp 34), .some 27))] [])))))))))
theorem b129 : Try.f129.body.bind (compC Try.prog) = some c129 := by kernel_rfl
theorem r129 : compR Try.prog Try.f129 = .some [] := by kernel_rfl
theorem n129 : (Try.f129.name == "runtime.NumGoroutine") = false := by kernel_rfl
def c130 : C := .seq
  (.reg [(none, (.mov (.const (.int .i64 0)), .some 2))] []) (.seq (.seq
  (.reg [(none, (.mov (.tmp 0), .some 3)), (none, (.eqp .false (.tmp 3) (.const (.pointer none)), .some 4))] []) (.cond (.tmp 4) (.seq
  (.reg [(none, (.mov (.const (.int .i64 19)), .some 2))] []) .ret) .skip)) (.seq
  (.reg [(none, (.mov (.tmp 0), .some 5)), (none, (.nilc (.tmp 5), .some 6)), (none, (.fadr 2 (.tmp 6), .some 7)), (none, (.load none (.tmp 7), .some 8)), (none, (.mov (.tmp 8), .some 2))] []) .ret))
theorem b130 : Try.f130.body.bind (compC Try.prog) = some c130 := by kernel_rfl
theorem r130 : compR Try.prog Try.f130 = .some [.tmp 2] := by kernel_rfl
theorem n130 : (Try.f130.name == "runtime.NumGoroutine") = false := by kernel_rfl
def c132 : C := .seq
  (.reg [(none, (.mov (.const (.int .i64 0)), .some 4))] []) (.seq
  (.reg [(none, (.mov (.tmp 0), .some 11)), (none, (.mov (.tmp 1), .some 12)), (none, (.call (.func 168) [.tmp 11, .tmp 12], .some 13)), (none, (.mov (.tmp 13), .some 10)), (none, (.ext (.tmp 10) 0, .some 14)), (none, (.ext (.tmp 10) 1, .some 15)), (none, (.mov (.tmp 14), .some 5)), (none, (.mov (.tmp 15), .some 6))] []) (.seq (.seq
  (.reg [(none, (.mov (.tmp 6), .some 16)), (none, (.un .not (.tmp 16), .some 17))] []) (.cond (.tmp 17) (.seq
  (.reg [(none, (.mov (.const (.int .i64 0)), .some 4))] []) .ret) .skip)) (.seq
  (.reg [(none, (.mov (.tmp 1), .some 18)), (none, (.len .false (.tmp 18), .some 19)), (none, (.cvt .u64 (.tmp 19), .some 20)), (none, (.call (.func 131) [.tmp 20], .some 21)), (none, (.mov (.tmp 21), .some 7))] []) (.seq (.seq
  (.reg [(none, (.mov (.tmp 5), .some 22)), (none, (.len .false (.tmp 22), .some 23)), (none, (.mov (.const (.int .i64 0)), .some 24))] []) (.block 0 (.loop (.seq
  (.reg [(none, (.bin .lss (.tmp 24) (.tmp 23), .some 25))] []) (.seq (.cond (.tmp 25) .skip (.exit 0)) (.seq (.block 1 (.seq
  (.reg [(none, (.iadr 1 (.tmp 22) (.tmp 24), .some 26)), (none, (.load none (.tmp 26), .some 27)), (none, (.mov (.tmp 27), .some 9))] [])
  (.reg [(none, (.mov (.tmp 7), .some 28)), (none, (.mov (.tmp 9), .some 29)), (none, (.call (.func 131) [.tmp 29], .some 30)), (none, (.bin .add (.tmp 28) (.tmp 30), .some 31)), (none, (.mov (.tmp 31), .some 7))] [])))
  (.reg [(none, (.bin .add (.tmp 24) (.const (.int .i64 1)), .some 32)), (none, (.mov (.tmp 32), .some 24))] []))))))) (.seq
  (.reg [(none, (.mov (.tmp 7), .some 33)), (none, (.mov (.tmp 33), .some 4))] []) .ret)))))
theorem b132 : Try.f132.body.bind (compC Try.prog) = some c132 := by kernel_rfl
theorem r132 : compR Try.prog Try.f132 = .some [.tmp 4] := by kernel_rfl
theorem n132 : (Try.f132.name == "runtime.NumGoroutine") = false := by kernel_rfl
def c150 : C := .seq
  (.reg [(none, (.mov (.const (.int .i64 0)), .some 2))] []) (.seq (.seq
  (.reg [(none, (.mov (.tmp 0), .some 3)), (none, (.eqp .false (.tmp 3) (.const (.pointer none)), .some 4))] []) (.cond (.tmp 4) (.seq
  (.reg [(none, (.mov (.const (.int .i64 0)), .some 2))] []) .ret) .skip)) (.seq
  (.reg [(none, (.mov (.tmp 0), .some 5)), (none, (.nilc (.tmp 5), .some 6)), (none, (.fadr 0 (.tmp 6), .some 7)), (none, (.load none (.tmp 7), .some 8)), (none, (.len .false (.tmp 8), .some 9)), (none, (.mov (.tmp 0), .some 10)), (none, (.nilc (.tmp 10), .some 11)), (none, (.fadr 1 (.tmp 11), .some 12)), (none, (.load none (.tmp 12), .some 13)), (none, (.bin .sub (.tmp 9) (.tmp 13), .some 14)), (none, (.mov (.tmp 14), .some 2))] [(3, 8)]) .ret))
theorem b150 : Try.f150.body.bind (compC Try.prog) = some c150 := by kernel_rfl
theorem r150 : compR Try.prog Try.f150 = .some [.tmp 2] := by kernel_rfl
theorem n150 : (Try.f150.name == "runtime.NumGoroutine") = false := by kernel_rfl
def c156 : C := .seq
  (.reg [(none, (.new [.int .i64 0, .int .i64 0], .some 4))] []) (.seq
  (.reg [(none, (.build [.int .i64 0, .int .i64 0] [], .some 6)), (none, (.new [.int .i64 0, .int .i64 0], .some 5)), (none, (.store 2 (.tmp 5) (.tmp 6), none))] []) (.seq (.seq
  (.reg [(none, (.mov (.tmp 0), .some 7)), (none, (.bin .neq (.tmp 7) (.const (.int .i64 0)), .some 8))] []) (.cond (.tmp 8)
  (.reg [(none, (.mov (.tmp 0), .some 9)), (none, (.mov (.tmp 1), .some 10)), (none, (.fadr 0 (.tmp 5), .some 11)), (none, (.store 1 (.tmp 11) (.tmp 9), none)), (none, (.fadr 1 (.tmp 5), .some 12)), (none, (.store 1 (.tmp 12) (.tmp 10), none))] []) .skip)) (.seq
  (.reg [(none, (.load (.some 2) (.tmp 5), .some 13)), (none, (.store 2 (.tmp 4) (.tmp 13), none))] []) .ret)))
theorem b156 : Try.f156.body.bind (compC Try.prog) = some c156 := by kernel_rfl
theorem r156 : compR Try.prog Try.f156 = .some [.cell 4 (.some 2)] := by kernel_rfl
theorem n156 : (Try.f156.name == "runtime.NumGoroutine") = false := by kernel_rfl
def c166 : C := .seq
  (.reg [(none, (.box (.tmp 0), .some 2)), (none, (.new [.slice none 0 0, .int .i64 0, .int .i64 0, .int .i64 0], .some 4)), (none, (.mov (.const (.int .u64 0)), .some 5))] []) (.seq
  (.reg [(none, (.fadr 1 (.tmp 2), .some 9)), (none, (.load none (.tmp 9), .some 10)), (none, (.mov (.tmp 10), .some 6))] []) (.seq
  (.reg [(none, (.load (.some 4) (.tmp 2), .some 12)), (none, (.call (.func 107) [.tmp 12], .some 13)), (none, (.mov (.tmp 13), .some 11)), (none, (.ext (.tmp 11) 0, .some 14)), (none, (.ext (.tmp 11) 1, .some 15)), (none, (.new [.slice none 0 0, .int .i64 0, .int .i64 0, .int .i64 0], .some 7)), (none, (.store 4 (.tmp 7) (.tmp 14), none)), (none, (.mov (.tmp 15), .some 8))] []) (.seq (.seq
  (.reg [(none, (.mov (.tmp 8), .some 16)), (none, (.mov (.tmp 1), .some 17)), (none, (.bin .gtr (.tmp 16) (.tmp 17), .some 18))] []) (.cond (.tmp 18) (.seq
  (.reg [(none, (.load (.some 4) (.tmp 7), .some 19)), (none, (.mov (.tmp 6), .some 20)), (none, (.call (.func 104) [.tmp 19, .const (.int .i64 2), .tmp 20], .some 21)), (none, (.store 4 (.tmp 4) (.tmp 21), none)), (none, (.mov (.const (.int .u64 0)), .some 5))] []) .ret) .skip)) (.seq
  (.reg [(none, (.load (.some 4) (.tmp 7), .some 22)), (none, (.mov (.tmp 8), .some 23)), (none, (.store 4 (.tmp 4) (.tmp 22), none)), (none, (.mov (.tmp 23), .some 5))] []) .ret))))
theorem b166 : Try.f166.body.bind (compC Try.prog) = some c166 := by kernel_rfl
theorem r166 : compR Try.prog Try.f166 = .some [.cell 4 (.some 4), .tmp 5] := by kernel_rfl
theorem n166 : (Try.f166.name == "runtime.NumGoroutine") = false := by kernel_rfl
end Go.Proofs.Ytkhnfleejgfhgaa
