/-
  The codes of the seat's functions over abstract values, each shown to be its function's own (by program: wip/tools/codes.py).
-/
import Derived.Test.YtkhnfleejgfhgaaA2
import Derived.Test.YtkhnfleejgfhgaaProg
import Derived.KernelRfl
namespace Go.Proofs.Ytkhnfleejgfhgaa
def c21 : C := .seq
  (.reg [(none, (.mov (.const (.slice none 0 0)), .some 2))] []) (.seq
  (.reg [(none, (.mov (.tmp 0), .some 6)), (none, (.call (.func 25) [.tmp 6], .some 7)), (none, (.mksl 1 1 (.const (.int .i64 0)) (.tmp 7), .some 8)), (none, (.mov (.tmp 8), .some 3))] []) (.seq (.seq
  (.reg [(none, (.mov (.tmp 0), .some 9)), (none, (.len .false (.tmp 9), .some 10)), (none, (.mov (.const (.int .i64 0)), .some 11))] []) (.block 0 (.loop (.seq
  (.reg [(none, (.bin .lss (.tmp 11) (.tmp 10), .some 12))] []) (.seq (.cond (.tmp 12) .skip (.exit 0)) (.seq (.block 1 (.seq
  (.reg [(none, (.iadr 2 (.tmp 9) (.tmp 11), .some 13)), (none, (.load (.some 2) (.tmp 13), .some 14)), (none, (.new [.slice none 0 0, .slice none 0 0], .some 5)), (none, (.store 2 (.tmp 5) (.tmp 14), none))] [])
  (.reg [(none, (.mov (.tmp 3), .some 15)), (none, (.fadr 1 (.tmp 5), .some 16)), (none, (.load none (.tmp 16), .some 17)), (none, (.app 1 1 (.tmp 15) (.tmp 17), .some 18)), (none, (.mov (.tmp 18), .some 3))] [])))
  (.reg [(none, (.bin .add (.tmp 11) (.const (.int .i64 1)), .some 19)), (none, (.mov (.tmp 19), .some 11))] []))))))) (.seq
  (.reg [(none, (.mov (.tmp 3), .some 20)), (none, (.mov (.tmp 20), .some 2))] []) .ret)))
theorem b21 : Try.f21.body.bind (compC Try.prog) = some c21 := by kernel_rfl
theorem r21 : compR Try.prog Try.f21 = .some [.tmp 2] := by kernel_rfl
theorem n21 : (Try.f21.name == "runtime.NumGoroutine") = false := by kernel_rfl
def c23 : C := .seq
  (.reg [(none, (.mov (.const (.bool .false)), .some 4))] []) (.seq
  (.reg [(none, (.mov (.tmp 0), .some 5)), (none, (.b2s (.tmp 5), .some 6)), (none, (.mov (.tmp 1), .some 7)), (none, (.b2s (.tmp 7), .some 8)), (none, (.bin .eql (.tmp 6) (.tmp 8), .some 9)), (none, (.mov (.tmp 9), .some 4))] []) .ret)
theorem b23 : Try.f23.body.bind (compC Try.prog) = some c23 := by kernel_rfl
theorem r23 : compR Try.prog Try.f23 = .some [.tmp 4] := by kernel_rfl
theorem n23 : (Try.f23.name == "runtime.NumGoroutine") = false := by kernel_rfl
def c26 : C := .seq
  (.reg [(none, (.mov (.const (.bool .false)), .some 4))] []) (.seq (.seq
  (.reg [(none, (.mov (.tmp 0), .some 6)), (none, (.len .false (.tmp 6), .some 7)), (none, (.mov (.tmp 1), .some 8)), (none, (.len .false (.tmp 8), .some 9)), (none, (.bin .neq (.tmp 7) (.tmp 9), .some 10))] []) (.cond (.tmp 10) (.seq
  (.reg [(none, (.mov (.const (.bool .false)), .some 4))] []) .ret) .skip)) (.seq (.seq
  (.reg [(none, (.mov (.const (.int .i64 0)), .some 5))] []) (.block 0 (.loop (.seq (.seq
  (.reg [(none, (.mov (.tmp 5), .some 11)), (none, (.mov (.tmp 0), .some 12)), (none, (.len .false (.tmp 12), .some 13)), (none, (.bin .lss (.tmp 11) (.tmp 13), .some 14))] []) (.cond (.tmp 14) .skip (.exit 0))) (.seq (.block 1 (.seq
  (.reg [(none, (.mov (.tmp 0), .some 17)), (none, (.mov (.tmp 5), .some 18)), (none, (.iadr 2 (.tmp 17) (.tmp 18), .some 19)), (none, (.load (.some 2) (.tmp 19), .some 20)), (none, (.mov (.tmp 1), .some 21)), (none, (.mov (.tmp 5), .some 22)), (none, (.iadr 2 (.tmp 21) (.tmp 22), .some 23)), (none, (.load (.some 2) (.tmp 23), .some 24)), (none, (.call (.func 27) [.tmp 20, .tmp 24], .some 25)), (none, (.un .not (.tmp 25), .some 26))] [(3, 7)]) (.cond (.tmp 26) (.seq
  (.reg [(none, (.mov (.const (.bool .false)), .some 4))] []) .ret) .skip)))
  (.reg [(none, (.mov (.tmp 5), .some 15)), (none, (.bin .add (.tmp 15) (.const (.int .i64 1)), .some 16)), (none, (.mov (.tmp 16), .some 5))] [])))))) (.seq
  (.reg [(none, (.mov (.const (.bool .true)), .some 4))] []) .ret)))
theorem b26 : Try.f26.body.bind (compC Try.prog) = some c26 := by kernel_rfl
theorem r26 : compR Try.prog Try.f26 = .some [.tmp 4] := by kernel_rfl
theorem n26 : (Try.f26.name == "runtime.NumGoroutine") = false := by kernel_rfl
def c41 : C := .seq
  (.reg [(none, (.box (.tmp 0), .some 2)), (none, (.mov (.const (.bool .false)), .some 4))] []) (.seq (.seq
  (.reg [(none, (.mov (.tmp 1), .some 6)), (none, (.len .false (.tmp 6), .some 7)), (none, (.bin .gtr (.tmp 7) (.const (.int .i64 16)), .some 8)), (none, (.mov (.tmp 8), .some 9)), (.some (9, .false), (.mov (.tmp 1), .some 10)), (.some (9, .false), (.call (.func 113) [.tmp 10, .func 114], .some 11)), (.some (9, .false), (.un .not (.tmp 11), .some 12)), (none, (.pick (.tmp 9) (.const (.bool .true)) (.tmp 12), .some 13))] []) (.cond (.tmp 13) (.seq
  (.reg [(none, (.mov (.const (.bool .false)), .some 4))] []) .ret) .skip)) (.seq
  (.reg [(none, (.mkf 115 [] [.tmp 2], .some 14)), (none, (.mov (.tmp 14), .some 5))] []) (.seq
  (.reg [(none, (.mov (.tmp 1), .some 15)), (none, (.mov (.tmp 5), .some 16)), (none, (.call (.func 117) [.tmp 15, .tmp 16], .some 17)), (none, (.mov (.tmp 1), .some 18)), (none, (.len .false (.tmp 18), .some 19)), (none, (.bin .eql (.tmp 17) (.tmp 19), .some 20)), (none, (.mov (.tmp 20), .some 4))] []) .ret)))
theorem b41 : Try.f41.body.bind (compC Try.prog) = some c41 := by kernel_rfl
theorem r41 : compR Try.prog Try.f41 = .some [.tmp 4] := by kernel_rfl
theorem n41 : (Try.f41.name == "runtime.NumGoroutine") = false := by kernel_rfl
def c54 : C := .seq (.seq
  (.reg [(none, (.mov (.tmp 1), .some 8)), (none, (.mov (.tmp 2), .some 9)), (none, (.call (.func 41) [.tmp 8, .tmp 9], .some 10)), (none, (.un .not (.tmp 10), .some 11))] []) (.cond (.tmp 11) (.seq
  (.reg [(none, (.mov (.tmp 0), .some 12)), (none, (.call (.func 126) [.tmp 12, .const (.int .i64 3)], .some 13))] []) .ret) .skip)) (.seq
  (.reg [(none, (.mov (.tmp 0), .some 14)), (none, (.mov (.tmp 2), .some 15)), (none, (.len .false (.tmp 15), .some 16)), (none, (.cvt .u64 (.tmp 16), .some 17)), (none, (.call (.func 127) [.tmp 14, .tmp 17], .some 18))] []) (.seq
  (.reg [(none, (.mov (.tmp 2), .some 19)), (none, (.call (.func 128) [.tmp 19], .some 20)), (none, (.len .false (.tmp 20), .some 21)), (none, (.mov (.const (.int .i64 0)), .some 22))] []) (.block 0 (.loop (.seq
  (.reg [(none, (.bin .lss (.tmp 22) (.tmp 21), .some 23))] []) (.seq (.cond (.tmp 23) .skip (.exit 0)) (.seq (.block 1 (.seq
  (.reg [(none, (.mov (.tmp 22), .some 24)), (none, (.iadr 1 (.tmp 20) (.tmp 22), .some 25)), (none, (.load none (.tmp 25), .some 26)), (none, (.mov (.tmp 24), .some 6)), (none, (.mov (.tmp 26), .some 7))] []) (.seq
  (.reg [(none, (.mov (.tmp 0), .some 27)), (none, (.mov (.tmp 7), .some 28)), (none, (.call (.func 127) [.tmp 27, .tmp 28], .some 29))] [])
  (.reg [(none, (.mov (.tmp 0), .some 30)), (none, (.mov (.tmp 1), .some 31)), (none, (.mov (.tmp 2), .some 32)), (none, (.mov (.tmp 6), .some 33)), (none, (.iadr 2 (.tmp 32) (.tmp 33), .some 34)), (none, (.fadr 1 (.tmp 34), .some 35)), (none, (.load none (.tmp 35), .some 36)), (none, (.call (.func 129) [.tmp 30, .tmp 31, .tmp 36], .some 37))] []))))
  (.reg [(none, (.bin .add (.tmp 22) (.const (.int .i64 1)), .some 38)), (none, (.mov (.tmp 38), .some 22))] []))))))))
theorem b54 : Try.f54.body.bind (compC Try.prog) = some c54 := by kernel_rfl
theorem r54 : compR Try.prog Try.f54 = .some [] := by kernel_rfl
theorem n54 : (Try.f54.name == "runtime.NumGoroutine") = false := by kernel_rfl
def c80 : C := .seq
  (.reg [(none, (.box (.tmp 2), .some 5))] []) (.seq (.seq
  (.reg [(none, (.mov (.tmp 1), .some 6)), (none, (.load (.some 2) (.tmp 5), .some 7)), (none, (.call (.func 81) [.tmp 6, .tmp 7], .some 8)), (none, (.un .not (.tmp 8), .some 9))] []) (.cond (.tmp 9) (.seq
  (.reg [(none, (.mov (.tmp 0), .some 10)), (none, (.call (.func 126) [.tmp 10, .const (.int .i64 3)], .some 11))] []) .ret) .skip)) (.seq
  (.reg [(none, (.mov (.tmp 0), .some 12)), (none, (.mov (.tmp 1), .some 13)), (none, (.fadr 0 (.tmp 5), .some 14)), (none, (.load none (.tmp 14), .some 15)), (none, (.call (.func 54) [.tmp 12, .tmp 13, .tmp 15], .some 16))] [])
  (.reg [(none, (.mov (.tmp 0), .some 17)), (none, (.fadr 1 (.tmp 5), .some 18)), (none, (.load none (.tmp 18), .some 19)), (none, (.len .false (.tmp 19), .some 20)), (none, (.cvt .u64 (.tmp 20), .some 21)), (none, (.call (.func 127) [.tmp 17, .tmp 21], .some 22))] [])))
theorem b80 : Try.f80.body.bind (compC Try.prog) = some c80 := by kernel_rfl
theorem r80 : compR Try.prog Try.f80 = .some [] := by kernel_rfl
theorem n80 : (Try.f80.name == "runtime.NumGoroutine") = false := by kernel_rfl
def c81 : C := .seq
  (.reg [(none, (.box (.tmp 1), .some 3)), (none, (.mov (.const (.bool .false)), .some 4))] []) (.seq
  (.reg [(none, (.mov (.tmp 0), .some 5)), (none, (.fadr 0 (.tmp 3), .some 6)), (none, (.load none (.tmp 6), .some 7)), (none, (.call (.func 41) [.tmp 5, .tmp 7], .some 8)), (none, (.mov (.tmp 8), .some 9)), (.some (9, .true), (.fadr 1 (.tmp 3), .some 10)), (.some (9, .true), (.load none (.tmp 10), .some 11)), (.some (9, .true), (.len .false (.tmp 11), .some 12)), (.some (9, .true), (.bin .leq (.tmp 12) (.const (.int .i64 1048576)), .some 13)), (none, (.pick (.tmp 9) (.tmp 13) (.const (.bool .false)), .some 14)), (none, (.mov (.tmp 14), .some 4))] []) .ret)
theorem b81 : Try.f81.body.bind (compC Try.prog) = some c81 := by kernel_rfl
theorem r81 : compR Try.prog Try.f81 = .some [.tmp 4] := by kernel_rfl
theorem n81 : (Try.f81.name == "runtime.NumGoroutine") = false := by kernel_rfl
def c112 : C := .seq
  (.reg [(none, (.mov (.const (.bool .false)), .some 4))] []) (.seq (.seq
  (.reg [(none, (.mov (.tmp 0), .some 6)), (none, (.len .false (.tmp 6), .some 7)), (none, (.mov (.tmp 1), .some 8)), (none, (.len .false (.tmp 8), .some 9)), (none, (.bin .neq (.tmp 7) (.tmp 9), .some 10))] []) (.cond (.tmp 10) (.seq
  (.reg [(none, (.mov (.const (.bool .false)), .some 4))] []) .ret) .skip)) (.seq (.seq
  (.reg [(none, (.mov (.const (.int .i64 0)), .some 5))] []) (.block 0 (.loop (.seq (.seq
  (.reg [(none, (.mov (.tmp 5), .some 11)), (none, (.mov (.tmp 0), .some 12)), (none, (.len .false (.tmp 12), .some 13)), (none, (.bin .lss (.tmp 11) (.tmp 13), .some 14))] []) (.cond (.tmp 14) .skip (.exit 0))) (.seq (.block 1 (.seq
  (.reg [(none, (.mov (.tmp 0), .some 17)), (none, (.mov (.tmp 5), .some 18)), (none, (.iadr 1 (.tmp 17) (.tmp 18), .some 19)), (none, (.load none (.tmp 19), .some 20)), (none, (.mov (.tmp 1), .some 21)), (none, (.mov (.tmp 5), .some 22)), (none, (.iadr 1 (.tmp 21) (.tmp 22), .some 23)), (none, (.load none (.tmp 23), .some 24)), (none, (.bin .neq (.tmp 20) (.tmp 24), .some 25))] [(3, 7)]) (.cond (.tmp 25) (.seq
  (.reg [(none, (.mov (.const (.bool .false)), .some 4))] []) .ret) .skip)))
  (.reg [(none, (.mov (.tmp 5), .some 15)), (none, (.bin .add (.tmp 15) (.const (.int .i64 1)), .some 16)), (none, (.mov (.tmp 16), .some 5))] [])))))) (.seq
  (.reg [(none, (.mov (.const (.bool .true)), .some 4))] []) .ret)))
theorem b112 : Try.f112.body.bind (compC Try.prog) = some c112 := by kernel_rfl
theorem r112 : compR Try.prog Try.f112 = .some [.tmp 4] := by kernel_rfl
theorem n112 : (Try.f112.name == "runtime.NumGoroutine") = false := by kernel_rfl
def c113 : C := .seq
  (.reg [(none, (.mov (.const (.bool .false)), .some 4))] []) (.seq (.seq
  (.reg [(none, (.mov (.tmp 0), .some 6)), (none, (.len .false (.tmp 6), .some 7)), (none, (.mov (.const (.int .i64 0)), .some 8))] []) (.block 0 (.loop (.seq
  (.reg [(none, (.bin .lss (.tmp 8) (.tmp 7), .some 9))] []) (.seq (.cond (.tmp 9) .skip (.exit 0)) (.seq (.block 1 (.seq
  (.reg [(none, (.mov (.tmp 8), .some 10)), (none, (.mov (.tmp 10), .some 5))] []) (.seq
  (.reg [(none, (.mov (.tmp 5), .some 11)), (none, (.bin .gtr (.tmp 11) (.const (.int .i64 0)), .some 12)), (none, (.mov (.tmp 12), .some 13)), (.some (13, .true), (.mov (.tmp 1), .some 14)), (.some (13, .true), (.mov (.tmp 0), .some 15)), (.some (13, .true), (.mov (.tmp 5), .some 16)), (.some (13, .true), (.iadr 2 (.tmp 15) (.tmp 16), .some 17)), (.some (13, .true), (.load (.some 2) (.tmp 17), .some 18)), (.some (13, .true), (.call (.tmp 14) [.tmp 18], .some 19)), (.some (13, .true), (.mov (.tmp 1), .some 20)), (.some (13, .true), (.mov (.tmp 0), .some 21)), (.some (13, .true), (.mov (.tmp 5), .some 22)), (.some (13, .true), (.bin .sub (.tmp 22) (.const (.int .i64 1)), .some 23)), (.some (13, .true), (.iadr 2 (.tmp 21) (.tmp 23), .some 24)), (.some (13, .true), (.load (.some 2) (.tmp 24), .some 25)), (.some (13, .true), (.call (.tmp 20) [.tmp 25], .some 26)), (.some (13, .true), (.bin .leq (.tmp 19) (.tmp 26), .some 27)), (none, (.pick (.tmp 13) (.tmp 27) (.const (.bool .false)), .some 28))] [(7, 14), (8, 14)]) (.cond (.tmp 28) (.seq
  (.reg [(none, (.mov (.const (.bool .false)), .some 4))] []) .ret) .skip))))
  (.reg [(none, (.bin .add (.tmp 8) (.const (.int .i64 1)), .some 29)), (none, (.mov (.tmp 29), .some 8))] []))))))) (.seq
  (.reg [(none, (.mov (.const (.bool .true)), .some 4))] []) .ret))
theorem b113 : Try.f113.body.bind (compC Try.prog) = some c113 := by kernel_rfl
theorem r113 : compR Try.prog Try.f113 = .some [.tmp 4] := by kernel_rfl
theorem n113 : (Try.f113.name == "runtime.NumGoroutine") = false := by kernel_rfl
def c116 : C := .seq
  (.reg [(none, (.mov (.const (.bool .false)), .some 4))] []) (.seq
  (.reg [(none, (.mov (.tmp 0), .some 8)), (none, (.mov (.tmp 1), .some 9)), (none, (.call (.func 168) [.tmp 8, .tmp 9], .some 10)), (none, (.mov (.tmp 10), .some 7)), (none, (.ext (.tmp 7) 0, .some 11)), (none, (.ext (.tmp 7) 1, .some 12)), (none, (.mov (.tmp 11), .some 5)), (none, (.mov (.tmp 12), .some 6))] []) (.seq
  (.reg [(none, (.mov (.tmp 6), .some 13)), (none, (.mov (.tmp 13), .some 4))] []) .ret))
theorem b116 : Try.f116.body.bind (compC Try.prog) = some c116 := by kernel_rfl
theorem r116 : compR Try.prog Try.f116 = .some [.tmp 4] := by kernel_rfl
theorem n116 : (Try.f116.name == "runtime.NumGoroutine") = false := by kernel_rfl
def c172 : C := .seq
  (.reg [(none, (.mov (.const (.slice none 0 0)), .some 2))] []) (.seq
  (.reg [(none, (.mov (.const (.slice none 0 0)), .some 3))] []) (.seq (.block 0 (.loop (.seq (.seq
  (.reg [(none, (.mov (.tmp 0), .some 4)), (none, (.bin .geq (.tmp 4) (.const (.int .u64 128)), .some 5))] []) (.cond (.tmp 5) .skip (.exit 0))) (.block 1 (.seq
  (.reg [(none, (.mov (.tmp 3), .some 6)), (none, (.mov (.tmp 0), .some 7)), (none, (.cvt .u8 (.tmp 7), .some 8)), (none, (.bin .or (.tmp 8) (.const (.int .u8 128)), .some 9)), (none, (.bsl 1 [.tmp 9], .some 10)), (none, (.app 1 1 (.tmp 6) (.tmp 10), .some 11)), (none, (.mov (.tmp 11), .some 3))] [])
  (.reg [(none, (.mov (.tmp 0), .some 12)), (none, (.bin .shr (.tmp 12) (.const (.int .u64 7)), .some 13)), (none, (.mov (.tmp 13), .some 0))] [])))))) (.seq
  (.reg [(none, (.mov (.tmp 3), .some 14)), (none, (.mov (.tmp 0), .some 15)), (none, (.cvt .u8 (.tmp 15), .some 16)), (none, (.bsl 1 [.tmp 16], .some 17)), (none, (.app 1 1 (.tmp 14) (.tmp 17), .some 18)), (none, (.mov (.tmp 18), .some 2))] []) .ret)))
theorem b172 : Try.f172.body.bind (compC Try.prog) = some c172 := by kernel_rfl
theorem r172 : compR Try.prog Try.f172 = .some [.tmp 2] := by kernel_rfl
theorem n172 : (Try.f172.name == "runtime.NumGoroutine") = false := by kernel_rfl
end Go.Proofs.Ytkhnfleejgfhgaa
