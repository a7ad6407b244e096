/-
  The codes of the seat's functions over abstract values, each shown to be its function's own (by program: wip/tools/codes.py).
-/
import Derived.Test.YtkhnfleejgfhgaaA2
import Derived.Test.YtkhnfleejgfhgaaProg
import Derived.KernelRfl
namespace Go.Proofs.Ytkhnfleejgfhgaa
def c19 : C := .seq
  (.reg [(none, (.mov (.const (.bool .false)), .some 2))] []) (.seq (.seq
  (.reg [(none, (.mov (.const (.int .i64 0)), .some 3))] []) (.block 0 (.loop (.seq (.seq
  (.reg [(none, (.mov (.tmp 3), .some 4)), (none, (.mov (.tmp 0), .some 5)), (none, (.len .false (.tmp 5), .some 6)), (none, (.bin .lss (.tmp 4) (.tmp 6), .some 7)), (none, (.mov (.tmp 7), .some 8)), (.some (8, .true), (.mov (.tmp 3), .some 9)), (.some (8, .true), (.bin .lss (.tmp 9) (.const (.int .i64 30)), .some 10)), (none, (.pick (.tmp 8) (.tmp 10) (.const (.bool .false)), .some 11))] []) (.cond (.tmp 11) .skip (.exit 0))) (.seq (.block 1 (.seq
  (.reg [(none, (.mov (.tmp 0), .some 14)), (none, (.mov (.tmp 3), .some 15)), (none, (.iadr 2 (.tmp 14) (.tmp 15), .some 16)), (none, (.load (.some 2) (.tmp 16), .some 17)), (none, (.call (.func 28) [.tmp 17], .some 18))] []) (.cond (.tmp 18) (.seq
  (.reg [(none, (.mov (.const (.bool .true)), .some 2))] []) .ret) .skip)))
  (.reg [(none, (.mov (.tmp 3), .some 12)), (none, (.bin .add (.tmp 12) (.const (.int .i64 1)), .some 13)), (none, (.mov (.tmp 13), .some 3))] [])))))) (.seq
  (.reg [(none, (.mov (.tmp 0), .some 19)), (none, (.len .false (.tmp 19), .some 20)), (none, (.bin .gtr (.tmp 20) (.const (.int .i64 30)), .some 21)), (none, (.mov (.tmp 21), .some 2))] []) .ret))
theorem b19 : Try.f19.body.bind (compC Try.prog) = some c19 := by kernel_rfl
theorem r19 : compR Try.prog Try.f19 = .some [.tmp 2] := by kernel_rfl
theorem n19 : (Try.f19.name == "runtime.NumGoroutine") = false := by kernel_rfl
def c22 : C := .seq
  (.reg [(none, (.mov (.const (.slice none 0 0)), .some 6)), (none, (.mov (.const (.bool .false)), .some 7))] []) (.seq (.seq
  (.reg [(none, (.mov (.tmp 1), .some 13)), (none, (.len .false (.tmp 13), .some 14)), (none, (.mov (.tmp 0), .some 15)), (none, (.len .false (.tmp 15), .some 16)), (none, (.bin .neq (.tmp 14) (.tmp 16), .some 17))] []) (.cond (.tmp 17) (.seq
  (.reg [(none, (.mov (.const (.slice none 0 0)), .some 6)), (none, (.mov (.const (.bool .false)), .some 7))] []) .ret) .skip)) (.seq
  (.reg [(none, (.bsl 1 [], .some 18)), (none, (.mov (.tmp 2), .some 19)), (none, (.app 1 1 (.tmp 18) (.tmp 19), .some 20)), (none, (.mov (.tmp 20), .some 8))] []) (.seq
  (.reg [(none, (.mov (.const (.slice none 0 0)), .some 9))] []) (.seq (.seq
  (.reg [(none, (.mov (.tmp 0), .some 21)), (none, (.len .false (.tmp 21), .some 22)), (none, (.mov (.const (.int .i64 0)), .some 23))] []) (.block 0 (.loop (.seq
  (.reg [(none, (.bin .lss (.tmp 23) (.tmp 22), .some 24))] []) (.seq (.cond (.tmp 24) .skip (.exit 0)) (.seq (.block 1 (.seq
  (.reg [(none, (.mov (.tmp 23), .some 25)), (none, (.iadr 2 (.tmp 21) (.tmp 23), .some 26)), (none, (.load (.some 2) (.tmp 26), .some 27)), (none, (.new [.slice none 0 0, .slice none 0 0], .some 11)), (none, (.mov (.tmp 25), .some 10)), (none, (.store 2 (.tmp 11) (.tmp 27), none))] []) (.seq
  (.reg [(none, (.mov (.tmp 1), .some 28)), (none, (.mov (.tmp 10), .some 29)), (none, (.iadr 1 (.tmp 28) (.tmp 29), .some 30)), (none, (.load none (.tmp 30), .some 31)), (none, (.mov (.tmp 31), .some 12))] []) (.seq (.seq
  (.reg [(none, (.mov (.tmp 12), .some 32)), (none, (.bin .lss (.tmp 32) (.const (.int .i64 0)), .some 33)), (none, (.mov (.tmp 33), .some 34)), (.some (34, .false), (.mov (.tmp 12), .some 35)), (.some (34, .false), (.mov (.tmp 8), .some 36)), (.some (34, .false), (.len .false (.tmp 36), .some 37)), (.some (34, .false), (.bin .gtr (.tmp 35) (.tmp 37), .some 38)), (none, (.pick (.tmp 34) (.const (.bool .true)) (.tmp 38), .some 39))] []) (.cond (.tmp 39) (.seq
  (.reg [(none, (.mov (.const (.slice none 0 0)), .some 6)), (none, (.mov (.const (.bool .false)), .some 7))] []) .ret) .skip)) (.seq
  (.reg [(none, (.fadr 0 (.tmp 11), .some 40)), (none, (.load none (.tmp 40), .some 41)), (none, (.call (.func 70) [.tmp 41], .some 42)), (none, (.fadr 0 (.tmp 11), .some 43)), (none, (.store 1 (.tmp 43) (.tmp 42), none))] []) (.seq
  (.reg [(none, (.mov (.tmp 8), .some 44)), (none, (.mov (.tmp 12), .some 45)), (none, (.mov (.tmp 12), .some 46)), (none, (.slice 1 (.tmp 44) none (.some (.tmp 45)) (.some (.tmp 46)), .some 47)), (none, (.fadr 1 (.tmp 11), .some 48)), (none, (.store 1 (.tmp 48) (.tmp 47), none))] []) (.seq
  (.reg [(none, (.mov (.tmp 8), .some 49)), (none, (.mov (.tmp 12), .some 50)), (none, (.slice 1 (.tmp 49) (.some (.tmp 50)) none none, .some 51)), (none, (.mov (.tmp 51), .some 8))] [])
  (.reg [(none, (.mov (.tmp 9), .some 52)), (none, (.load (.some 2) (.tmp 11), .some 53)), (none, (.bsl 2 [.tmp 53], .some 54)), (none, (.app 2 48 (.tmp 52) (.tmp 54), .some 55)), (none, (.mov (.tmp 55), .some 9))] []))))))))
  (.reg [(none, (.bin .add (.tmp 23) (.const (.int .i64 1)), .some 56)), (none, (.mov (.tmp 56), .some 23))] []))))))) (.seq (.seq
  (.reg [(none, (.mov (.tmp 8), .some 57)), (none, (.len .false (.tmp 57), .some 58)), (none, (.bin .gtr (.tmp 58) (.const (.int .i64 0)), .some 59))] []) (.cond (.tmp 59) (.seq
  (.reg [(none, (.mov (.const (.slice none 0 0)), .some 6)), (none, (.mov (.const (.bool .false)), .some 7))] []) .ret) .skip)) (.seq
  (.reg [(none, (.mov (.tmp 9), .some 60)), (none, (.mov (.tmp 60), .some 6)), (none, (.mov (.const (.bool .true)), .some 7))] []) .ret))))))
theorem b22 : Try.f22.body.bind (compC Try.prog) = some c22 := by kernel_rfl
theorem r22 : compR Try.prog Try.f22 = .some [.tmp 6, .tmp 7] := by kernel_rfl
theorem n22 : (Try.f22.name == "runtime.NumGoroutine") = false := by kernel_rfl
def c25 : C := .seq
  (.reg [(none, (.mov (.const (.int .i64 0)), .some 2))] []) (.seq
  (.reg [(none, (.mov (.const (.int .i64 0)), .some 3))] []) (.seq (.seq
  (.reg [(none, (.mov (.tmp 0), .some 6)), (none, (.len .false (.tmp 6), .some 7)), (none, (.mov (.const (.int .i64 0)), .some 8))] []) (.block 0 (.loop (.seq
  (.reg [(none, (.bin .lss (.tmp 8) (.tmp 7), .some 9))] []) (.seq (.cond (.tmp 9) .skip (.exit 0)) (.seq (.block 1 (.seq
  (.reg [(none, (.iadr 2 (.tmp 6) (.tmp 8), .some 10)), (none, (.load (.some 2) (.tmp 10), .some 11)), (none, (.new [.slice none 0 0, .slice none 0 0], .some 5)), (none, (.store 2 (.tmp 5) (.tmp 11), none))] [])
  (.reg [(none, (.mov (.tmp 3), .some 12)), (none, (.fadr 1 (.tmp 5), .some 13)), (none, (.load none (.tmp 13), .some 14)), (none, (.len .false (.tmp 14), .some 15)), (none, (.bin .add (.tmp 12) (.tmp 15), .some 16)), (none, (.mov (.tmp 16), .some 3))] [])))
  (.reg [(none, (.bin .add (.tmp 8) (.const (.int .i64 1)), .some 17)), (none, (.mov (.tmp 17), .some 8))] []))))))) (.seq
  (.reg [(none, (.mov (.tmp 3), .some 18)), (none, (.mov (.tmp 18), .some 2))] []) .ret)))
theorem b25 : Try.f25.body.bind (compC Try.prog) = some c25 := by kernel_rfl
theorem r25 : compR Try.prog Try.f25 = .some [.tmp 2] := by kernel_rfl
theorem n25 : (Try.f25.name == "runtime.NumGoroutine") = false := by kernel_rfl
def c47 : C := .seq
  (.reg [(none, (.mov (.const (.bool .false)), .some 4))] []) (.seq (.seq
  (.reg [(none, (.mov (.tmp 0), .some 6)), (none, (.len .false (.tmp 6), .some 7)), (none, (.mov (.tmp 1), .some 8)), (none, (.len .false (.tmp 8), .some 9)), (none, (.bin .neq (.tmp 7) (.tmp 9), .some 10))] []) (.cond (.tmp 10) (.seq
  (.reg [(none, (.mov (.const (.bool .false)), .some 4))] []) .ret) .skip)) (.seq (.seq
  (.reg [(none, (.mov (.const (.int .i64 0)), .some 5))] []) (.block 0 (.loop (.seq (.seq
  (.reg [(none, (.mov (.tmp 5), .some 11)), (none, (.mov (.tmp 0), .some 12)), (none, (.len .false (.tmp 12), .some 13)), (none, (.bin .lss (.tmp 11) (.tmp 13), .some 14))] []) (.cond (.tmp 14) .skip (.exit 0))) (.seq (.block 1 (.seq
  (.reg [(none, (.mov (.tmp 0), .some 17)), (none, (.mov (.tmp 5), .some 18)), (none, (.iadr 2 (.tmp 17) (.tmp 18), .some 19)), (none, (.load (.some 2) (.tmp 19), .some 20)), (none, (.mov (.tmp 1), .some 21)), (none, (.mov (.tmp 5), .some 22)), (none, (.iadr 2 (.tmp 21) (.tmp 22), .some 23)), (none, (.load (.some 2) (.tmp 23), .some 24)), (none, (.call (.func 66) [.tmp 20, .tmp 24], .some 25)), (none, (.un .not (.tmp 25), .some 26))] [(3, 7)]) (.cond (.tmp 26) (.seq
  (.reg [(none, (.mov (.const (.bool .false)), .some 4))] []) .ret) .skip)))
  (.reg [(none, (.mov (.tmp 5), .some 15)), (none, (.bin .add (.tmp 15) (.const (.int .i64 1)), .some 16)), (none, (.mov (.tmp 16), .some 5))] [])))))) (.seq
  (.reg [(none, (.mov (.const (.bool .true)), .some 4))] []) .ret)))
theorem b47 : Try.f47.body.bind (compC Try.prog) = some c47 := by kernel_rfl
theorem r47 : compR Try.prog Try.f47 = .some [.tmp 4] := by kernel_rfl
theorem n47 : (Try.f47.name == "runtime.NumGoroutine") = false := by kernel_rfl
def c55 : C := .seq
  (.reg [(none, (.mov (.const (.slice none 0 0)), .some 2)), (none, (.mov (.const (.int .i64 0)), .some 3))] []) (.seq (.seq
  (.reg [(none, (.mov (.tmp 0), .some 5)), (none, (.call (.func 130) [.tmp 5], .some 6)), (none, (.mov (.tmp 6), .some 4))] []) (.seq
  (.reg [(none, (.mov (.tmp 4), .some 7)), (none, (.bin .neq (.tmp 7) (.const (.int .i64 0)), .some 8))] []) (.cond (.tmp 8) (.seq
  (.reg [(none, (.mov (.tmp 4), .some 9)), (none, (.mov (.const (.slice none 0 0)), .some 2)), (none, (.mov (.tmp 9), .some 3))] []) .ret) .skip))) (.seq
  (.reg [(none, (.bsl 1 [], .some 10)), (none, (.mov (.tmp 0), .some 11)), (none, (.nilc (.tmp 11), .some 12)), (none, (.fadr 1 (.tmp 12), .some 13)), (none, (.load none (.tmp 13), .some 14)), (none, (.app 1 1 (.tmp 10) (.tmp 14), .some 15)), (none, (.mov (.tmp 15), .some 2)), (none, (.mov (.const (.int .i64 0)), .some 3))] []) .ret))
theorem b55 : Try.f55.body.bind (compC Try.prog) = some c55 := by kernel_rfl
theorem r55 : compR Try.prog Try.f55 = .some [.tmp 2, .tmp 3] := by kernel_rfl
theorem n55 : (Try.f55.name == "runtime.NumGoroutine") = false := by kernel_rfl
def c114 : C := .seq
  (.reg [(none, (.box (.tmp 0), .some 1)), (none, (.mov (.const (.int .u64 0)), .some 2))] []) (.seq
  (.reg [(none, (.fadr 0 (.tmp 1), .some 3)), (none, (.load none (.tmp 3), .some 4)), (none, (.mov (.tmp 4), .some 2))] []) .ret)
theorem b114 : Try.f114.body.bind (compC Try.prog) = some c114 := by kernel_rfl
theorem r114 : compR Try.prog Try.f114 = .some [.tmp 2] := by kernel_rfl
theorem n114 : (Try.f114.name == "runtime.NumGoroutine") = false := by kernel_rfl
def c115 : C := .seq
  (.reg [(none, (.box (.tmp 0), .some 2)), (none, (.mov (.const (.bool .false)), .some 3))] []) (.seq
  (.reg [(none, (.fadr 1 (.tmp 2), .some 4)), (none, (.load none (.tmp 4), .some 5)), (none, (.len .false (.tmp 5), .some 6)), (none, (.bin .gtr (.tmp 6) (.const (.int .i64 4)), .some 7)), (none, (.mov (.tmp 7), .some 8)), (.some (8, .false), (.load none (.tmp 1), .some 9)), (.some (8, .false), (.fadr 1 (.tmp 2), .some 10)), (.some (8, .false), (.load none (.tmp 10), .some 11)), (.some (8, .false), (.call (.func 116) [.tmp 9, .tmp 11], .some 12)), (.some (8, .false), (.un .not (.tmp 12), .some 13)), (none, (.pick (.tmp 8) (.const (.bool .true)) (.tmp 13), .some 14)), (none, (.mov (.tmp 14), .some 3))] []) .ret)
theorem b115 : Try.f115.body.bind (compC Try.prog) = some c115 := by kernel_rfl
theorem r115 : compR Try.prog Try.f115 = .some [.tmp 3] := by kernel_rfl
theorem n115 : (Try.f115.name == "runtime.NumGoroutine") = false := by kernel_rfl
def c117 : C := .seq
  (.reg [(none, (.mov (.const (.int .i64 0)), .some 4))] []) (.seq (.seq
  (.reg [(none, (.mov (.tmp 0), .some 7)), (none, (.len .false (.tmp 7), .some 8)), (none, (.mov (.const (.int .i64 0)), .some 9))] []) (.block 0 (.loop (.seq
  (.reg [(none, (.bin .lss (.tmp 9) (.tmp 8), .some 10))] []) (.seq (.cond (.tmp 10) .skip (.exit 0)) (.seq (.block 1 (.seq
  (.reg [(none, (.mov (.tmp 9), .some 11)), (none, (.iadr 2 (.tmp 7) (.tmp 9), .some 12)), (none, (.load (.some 2) (.tmp 12), .some 13)), (none, (.new [.int .u64 0, .slice none 0 0], .some 6)), (none, (.mov (.tmp 11), .some 5)), (none, (.store 2 (.tmp 6) (.tmp 13), none))] []) (.seq
  (.reg [(none, (.mov (.tmp 1), .some 14)), (none, (.load (.some 2) (.tmp 6), .some 15)), (none, (.call (.tmp 14) [.tmp 15], .some 16))] []) (.cond (.tmp 16) (.seq
  (.reg [(none, (.mov (.tmp 5), .some 17)), (none, (.mov (.tmp 17), .some 4))] []) .ret) .skip))))
  (.reg [(none, (.bin .add (.tmp 9) (.const (.int .i64 1)), .some 18)), (none, (.mov (.tmp 18), .some 9))] []))))))) (.seq
  (.reg [(none, (.mov (.tmp 0), .some 19)), (none, (.len .false (.tmp 19), .some 20)), (none, (.mov (.tmp 20), .some 4))] []) .ret))
theorem b117 : Try.f117.body.bind (compC Try.prog) = some c117 := by kernel_rfl
theorem r117 : compR Try.prog Try.f117 = .some [.tmp 4] := by kernel_rfl
theorem n117 : (Try.f117.name == "runtime.NumGoroutine") = false := by kernel_rfl
def c118 : C := .seq
  (.reg [(none, (.box (.tmp 0), .some 1)), (none, (.new [.int .u64 0, .slice none 0 0], .some 2))] []) (.seq
  (.reg [(none, (.bsl 1 [], .some 3)), (none, (.fadr 1 (.tmp 1), .some 4)), (none, (.load none (.tmp 4), .some 5)), (none, (.app 1 8 (.tmp 3) (.tmp 5), .some 6)), (none, (.fadr 1 (.tmp 1), .some 7)), (none, (.store 1 (.tmp 7) (.tmp 6), none))] []) (.seq
  (.reg [(none, (.load (.some 2) (.tmp 1), .some 8)), (none, (.store 2 (.tmp 2) (.tmp 8), none))] []) .ret))
theorem b118 : Try.f118.body.bind (compC Try.prog) = some c118 := by kernel_rfl
theorem r118 : compR Try.prog Try.f118 = .some [.cell 2 (.some 2)] := by kernel_rfl
theorem n118 : (Try.f118.name == "runtime.NumGoroutine") = false := by kernel_rfl
def c140 : C := .block 0 (.seq
  (.reg [(none, (.mov (.tmp 0), .some 14)), (none, (.call (.func 130) [.tmp 14], .some 15)), (none, (.bin .neq (.tmp 15) (.const (.int .i64 0)), .some 16)), (none, (.mov (.tmp 16), .some 13))] []) (.cond (.tmp 13) .skip (.seq
  (.reg [(none, (.mov (.tmp 1), .some 18)), (none, (.len .false (.tmp 18), .some 19)), (none, (.mov (.tmp 0), .some 20)), (none, (.call (.func 174) [.tmp 20], .some 21)), (none, (.bin .gtr (.tmp 19) (.tmp 21), .some 22)), (none, (.mov (.tmp 22), .some 17))] []) (.cond (.tmp 17)
  (.reg [(none, (.mov (.tmp 0), .some 23)), (none, (.call (.func 126) [.tmp 23, .const (.int .i64 2)], .some 24))] [])
  (.reg [(none, (.mov (.tmp 0), .some 4)), (none, (.mov (.tmp 0), .some 5)), (none, (.nilc (.tmp 5), .some 6)), (none, (.fadr 1 (.tmp 6), .some 7)), (none, (.load none (.tmp 7), .some 8)), (none, (.mov (.tmp 1), .some 9)), (none, (.app 1 1 (.tmp 8) (.tmp 9), .some 10)), (none, (.nilc (.tmp 4), .some 11)), (none, (.fadr 1 (.tmp 11), .some 12)), (none, (.store 1 (.tmp 12) (.tmp 10), none))] [])))))
theorem b140 : Try.f140.body.bind (compC Try.prog) = some c140 := by kernel_rfl
theorem r140 : compR Try.prog Try.f140 = .some [] := by kernel_rfl
theorem n140 : (Try.f140.name == "runtime.NumGoroutine") = false := by kernel_rfl
end Go.Proofs.Ytkhnfleejgfhgaa
