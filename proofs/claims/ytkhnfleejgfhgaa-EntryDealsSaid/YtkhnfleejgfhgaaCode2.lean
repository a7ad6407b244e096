/-
  The codes of the seat's functions over abstract values, each shown to be its function's own (by program: wip/tools/codes.py).
-/
import Derived.Test.YtkhnfleejgfhgaaA2
import Derived.Test.YtkhnfleejgfhgaaProg
import Derived.KernelRfl
namespace Go.Proofs.Ytkhnfleejgfhgaa
def c20 : C := .seq
  (.reg [(none, (.mov (.const (.bool .false)), .some 0))] []) (.seq
  (.reg [(none, (.call (.func 53) [.const (.int .i64 9)], .some 4)), (none, (.mov (.tmp 4), .some 1))] []) (.seq
  (.reg [(none, (.mov (.tmp 1), .some 5)), (none, (.bsl 1 [.const (.int .u8 7), .const (.int .u8 8)], .some 6)), (none, (.build [.slice none 0 0, .slice none 0 0] [(1, (1, .tmp 6))], .some 7)), (none, (.call (.func 80) [.tmp 5, .const (.int .u64 10), .tmp 7], .some 8))] []) (.seq
  (.reg [(none, (.mov (.tmp 1), .some 10)), (none, (.call (.func 55) [.tmp 10], .some 11)), (none, (.mov (.tmp 11), .some 9)), (none, (.ext (.tmp 9) 0, .some 12)), (none, (.ext (.tmp 9) 1, .some 13)), (none, (.mov (.tmp 12), .some 2)), (none, (.mov (.tmp 13), .some 3))] []) (.seq
  (.reg [(none, (.mov (.tmp 3), .some 14)), (none, (.bin .eql (.tmp 14) (.const (.int .i64 0)), .some 15)), (none, (.mov (.tmp 15), .some 16)), (.some (16, .true), (.mov (.tmp 2), .some 17)), (.some (16, .true), (.bsl 1 [.const (.int .u8 0), .const (.int .u8 2)], .some 18)), (.some (16, .true), (.call (.func 23) [.tmp 17, .tmp 18], .some 19)), (none, (.pick (.tmp 16) (.tmp 19) (.const (.bool .false)), .some 20)), (none, (.mov (.tmp 20), .some 0))] []) .ret))))
theorem b20 : Try.f20.body.bind (compC Try.prog) = some c20 := by kernel_rfl
theorem r20 : compR Try.prog Try.f20 = .some [.tmp 0] := by kernel_rfl
theorem n20 : (Try.f20.name == "runtime.NumGoroutine") = false := by kernel_rfl
def c24 : C := .seq
  (.reg [(none, (.mov (.const (.slice none 0 0)), .some 2))] []) (.seq
  (.reg [(none, (.mov (.const (.slice none 0 0)), .some 3))] []) (.seq (.seq
  (.reg [(none, (.mov (.const (.int .i64 0)), .some 4))] []) (.block 0 (.loop (.seq (.seq
  (.reg [(none, (.mov (.tmp 4), .some 5)), (none, (.mov (.tmp 0), .some 6)), (none, (.len .false (.tmp 6), .some 7)), (none, (.bin .lss (.tmp 5) (.tmp 7), .some 8))] []) (.cond (.tmp 8) .skip (.exit 0))) (.seq (.block 1
  (.reg [(none, (.mov (.tmp 3), .some 11)), (none, (.mov (.tmp 0), .some 12)), (none, (.mov (.tmp 4), .some 13)), (none, (.iadr 2 (.tmp 12) (.tmp 13), .some 14)), (none, (.fadr 1 (.tmp 14), .some 15)), (none, (.load none (.tmp 15), .some 16)), (none, (.app 1 1 (.tmp 11) (.tmp 16), .some 17)), (none, (.mov (.tmp 17), .some 3))] []))
  (.reg [(none, (.mov (.tmp 4), .some 9)), (none, (.bin .add (.tmp 9) (.const (.int .i64 1)), .some 10)), (none, (.mov (.tmp 10), .some 4))] [])))))) (.seq
  (.reg [(none, (.mov (.tmp 3), .some 18)), (none, (.mov (.tmp 18), .some 2))] []) .ret)))
theorem b24 : Try.f24.body.bind (compC Try.prog) = some c24 := by kernel_rfl
theorem r24 : compR Try.prog Try.f24 = .some [.tmp 2] := by kernel_rfl
theorem n24 : (Try.f24.name == "runtime.NumGoroutine") = false := by kernel_rfl
def c27 : C := .seq
  (.reg [(none, (.box (.tmp 0), .some 2)), (none, (.box (.tmp 1), .some 3)), (none, (.mov (.const (.bool .false)), .some 4))] []) (.seq
  (.reg [(none, (.fadr 0 (.tmp 2), .some 5)), (none, (.load none (.tmp 5), .some 6)), (none, (.fadr 0 (.tmp 3), .some 7)), (none, (.load none (.tmp 7), .some 8)), (none, (.call (.func 47) [.tmp 6, .tmp 8], .some 9)), (none, (.mov (.tmp 9), .some 10)), (.some (10, .true), (.fadr 1 (.tmp 2), .some 11)), (.some (10, .true), (.load none (.tmp 11), .some 12)), (.some (10, .true), (.fadr 1 (.tmp 3), .some 13)), (.some (10, .true), (.load none (.tmp 13), .some 14)), (.some (10, .true), (.call (.func 23) [.tmp 12, .tmp 14], .some 15)), (none, (.pick (.tmp 10) (.tmp 15) (.const (.bool .false)), .some 16)), (none, (.mov (.tmp 16), .some 4))] []) .ret)
theorem b27 : Try.f27.body.bind (compC Try.prog) = some c27 := by kernel_rfl
theorem r27 : compR Try.prog Try.f27 = .some [.tmp 4] := by kernel_rfl
theorem n27 : (Try.f27.name == "runtime.NumGoroutine") = false := by kernel_rfl
def c38 : C := .seq
  (.reg [(none, (.mov (.const (.bool .false)), .some 2))] []) (.seq (.seq
  (.reg [(none, (.mov (.const (.int .i64 0)), .some 3))] []) (.block 0 (.loop (.seq (.seq
  (.reg [(none, (.mov (.tmp 3), .some 4)), (none, (.mov (.tmp 0), .some 5)), (none, (.len .false (.tmp 5), .some 6)), (none, (.bin .lss (.tmp 4) (.tmp 6), .some 7)), (none, (.mov (.tmp 7), .some 8)), (.some (8, .true), (.mov (.tmp 3), .some 9)), (.some (8, .true), (.bin .lss (.tmp 9) (.const (.int .i64 50)), .some 10)), (none, (.pick (.tmp 8) (.tmp 10) (.const (.bool .false)), .some 11))] []) (.cond (.tmp 11) .skip (.exit 0))) (.seq (.block 1 (.seq
  (.reg [(none, (.mov (.tmp 0), .some 14)), (none, (.mov (.tmp 3), .some 15)), (none, (.iadr 2 (.tmp 14) (.tmp 15), .some 16)), (none, (.fadr 1 (.tmp 16), .some 17)), (none, (.load none (.tmp 17), .some 18)), (none, (.len .false (.tmp 18), .some 19)), (none, (.bin .gtr (.tmp 19) (.const (.int .i64 50)), .some 20))] []) (.cond (.tmp 20) (.seq
  (.reg [(none, (.mov (.const (.bool .true)), .some 2))] []) .ret) .skip)))
  (.reg [(none, (.mov (.tmp 3), .some 12)), (none, (.bin .add (.tmp 12) (.const (.int .i64 1)), .some 13)), (none, (.mov (.tmp 13), .some 3))] [])))))) (.seq
  (.reg [(none, (.mov (.tmp 0), .some 21)), (none, (.len .false (.tmp 21), .some 22)), (none, (.bin .gtr (.tmp 22) (.const (.int .i64 50)), .some 23)), (none, (.mov (.tmp 23), .some 2))] []) .ret))
theorem b38 : Try.f38.body.bind (compC Try.prog) = some c38 := by kernel_rfl
theorem r38 : compR Try.prog Try.f38 = .some [.tmp 2] := by kernel_rfl
theorem n38 : (Try.f38.name == "runtime.NumGoroutine") = false := by kernel_rfl
def c53 : C := .seq
  (.reg [(none, (.mov (.const (.pointer none)), .some 2))] []) (.seq
  (.reg [(none, (.mov (.tmp 0), .some 3)), (none, (.mx .true (.tmp 3) (.const (.int .i64 0)), .some 4)), (none, (.build [.int .i64 0, .slice none 0 0, .int .i64 0] [(0, (1, .tmp 4))], .some 5)), (none, (.box (.tmp 5), .some 6)), (none, (.mov (.tmp 6), .some 2))] []) .ret)
theorem b53 : Try.f53.body.bind (compC Try.prog) = some c53 := by kernel_rfl
theorem r53 : compR Try.prog Try.f53 = .some [.tmp 2] := by kernel_rfl
theorem n53 : (Try.f53.name == "runtime.NumGoroutine") = false := by kernel_rfl
def c70 : C := .seq
  (.reg [(none, (.mov (.const (.slice none 0 0)), .some 2))] []) (.seq
  (.reg [(none, (.mov (.const (.slice none 0 0)), .some 3))] []) (.seq (.seq
  (.reg [(none, (.mov (.tmp 0), .some 6)), (none, (.len .false (.tmp 6), .some 7)), (none, (.mov (.const (.int .i64 0)), .some 8))] []) (.block 0 (.loop (.seq
  (.reg [(none, (.bin .lss (.tmp 8) (.tmp 7), .some 9))] []) (.seq (.cond (.tmp 9) .skip (.exit 0)) (.seq (.block 1 (.seq
  (.reg [(none, (.iadr 2 (.tmp 6) (.tmp 8), .some 10)), (none, (.load (.some 2) (.tmp 10), .some 11)), (none, (.new [.int .u64 0, .slice none 0 0], .some 5)), (none, (.store 2 (.tmp 5) (.tmp 11), none))] [])
  (.reg [(none, (.mov (.tmp 3), .some 12)), (none, (.load (.some 2) (.tmp 5), .some 13)), (none, (.call (.func 118) [.tmp 13], .some 14)), (none, (.bsl 2 [.tmp 14], .some 15)), (none, (.app 2 32 (.tmp 12) (.tmp 15), .some 16)), (none, (.mov (.tmp 16), .some 3))] [])))
  (.reg [(none, (.bin .add (.tmp 8) (.const (.int .i64 1)), .some 17)), (none, (.mov (.tmp 17), .some 8))] []))))))) (.seq
  (.reg [(none, (.mov (.tmp 3), .some 18)), (none, (.mov (.tmp 18), .some 2))] []) .ret)))
theorem b70 : Try.f70.body.bind (compC Try.prog) = some c70 := by kernel_rfl
theorem r70 : compR Try.prog Try.f70 = .some [.tmp 2] := by kernel_rfl
theorem n70 : (Try.f70.name == "runtime.NumGoroutine") = false := by kernel_rfl
def c128 : C := .seq
  (.reg [(none, (.mov (.const (.slice none 0 0)), .some 2))] []) (.seq
  (.reg [(none, (.mov (.const (.slice none 0 0)), .some 3))] []) (.seq (.seq
  (.reg [(none, (.mov (.tmp 0), .some 7)), (none, (.len .false (.tmp 7), .some 8)), (none, (.mov (.const (.int .i64 0)), .some 9))] []) (.block 0 (.loop (.seq
  (.reg [(none, (.bin .lss (.tmp 9) (.tmp 8), .some 10))] []) (.seq (.cond (.tmp 10) .skip (.exit 0)) (.seq (.block 1 (.seq
  (.reg [(none, (.mov (.tmp 9), .some 11)), (none, (.iadr 2 (.tmp 7) (.tmp 9), .some 12)), (none, (.load (.some 2) (.tmp 12), .some 13)), (none, (.new [.int .u64 0, .slice none 0 0], .some 5)), (none, (.mov (.tmp 11), .some 4)), (none, (.store 2 (.tmp 5) (.tmp 13), none))] []) (.seq
  (.reg [(none, (.fadr 0 (.tmp 5), .some 14)), (none, (.load none (.tmp 14), .some 15)), (none, (.mov (.tmp 15), .some 6))] []) (.seq (.seq
  (.reg [(none, (.mov (.tmp 4), .some 16)), (none, (.bin .gtr (.tmp 16) (.const (.int .i64 0)), .some 17))] []) (.cond (.tmp 17)
  (.reg [(none, (.mov (.tmp 6), .some 18)), (none, (.mov (.tmp 0), .some 19)), (none, (.mov (.tmp 4), .some 20)), (none, (.bin .sub (.tmp 20) (.const (.int .i64 1)), .some 21)), (none, (.iadr 2 (.tmp 19) (.tmp 21), .some 22)), (none, (.fadr 0 (.tmp 22), .some 23)), (none, (.load none (.tmp 23), .some 24)), (none, (.bin .add (.tmp 24) (.const (.int .u64 1)), .some 25)), (none, (.bin .sub (.tmp 18) (.tmp 25), .some 26)), (none, (.mov (.tmp 26), .some 6))] []) .skip))
  (.reg [(none, (.mov (.tmp 3), .some 27)), (none, (.mov (.tmp 6), .some 28)), (none, (.bsl 1 [.tmp 28], .some 29)), (none, (.app 1 8 (.tmp 27) (.tmp 29), .some 30)), (none, (.mov (.tmp 30), .some 3))] [])))))
  (.reg [(none, (.bin .add (.tmp 9) (.const (.int .i64 1)), .some 31)), (none, (.mov (.tmp 31), .some 9))] []))))))) (.seq
  (.reg [(none, (.mov (.tmp 3), .some 32)), (none, (.mov (.tmp 32), .some 2))] []) .ret)))
theorem b128 : Try.f128.body.bind (compC Try.prog) = some c128 := by kernel_rfl
theorem r128 : compR Try.prog Try.f128 = .some [.tmp 2] := by kernel_rfl
theorem n128 : (Try.f128.name == "runtime.NumGoroutine") = false := by kernel_rfl
def c129 : C := .seq
  (.reg [(none, (.mov (.tmp 1), .some 11)), (none, (.mov (.tmp 2), .some 12)), (none, (.call (.func 168) [.tmp 11, .tmp 12], .some 13)), (none, (.mov (.tmp 13), .some 10)), (none, (.ext (.tmp 10) 0, .some 14)), (none, (.ext (.tmp 10) 1, .some 15)), (none, (.mov (.tmp 14), .some 6)), (none, (.mov (.tmp 15), .some 7))] []) (.seq (.seq
  (.reg [(none, (.mov (.tmp 7), .some 16)), (none, (.un .not (.tmp 16), .some 17))] []) (.cond (.tmp 17) (.seq
  (.reg [(none, (.mov (.tmp 0), .some 18)), (none, (.call (.func 126) [.tmp 18, .const (.int .i64 3)], .some 19))] []) .ret) .skip)) (.seq
  (.reg [(none, (.mov (.tmp 0), .some 20)), (none, (.mov (.tmp 2), .some 21)), (none, (.len .false (.tmp 21), .some 22)), (none, (.cvt .u64 (.tmp 22), .some 23)), (none, (.call (.func 127) [.tmp 20, .tmp 23], .some 24))] []) (.seq
  (.reg [(none, (.mov (.tmp 6), .some 25)), (none, (.len .false (.tmp 25), .some 26)), (none, (.mov (.const (.int .i64 0)), .some 27))] []) (.block 0 (.loop (.seq
  (.reg [(none, (.bin .lss (.tmp 27) (.tmp 26), .some 28))] []) (.seq (.cond (.tmp 28) .skip (.exit 0)) (.seq (.block 1 (.seq
  (.reg [(none, (.iadr 1 (.tmp 25) (.tmp 27), .some 29)), (none, (.load none (.tmp 29), .some 30)), (none, (.mov (.tmp 30), .some 9))] [])
  (.reg [(none, (.mov (.tmp 0), .some 31)), (none, (.mov (.tmp 9), .some 32)), (none, (.call (.func 127) [.tmp 31, .tmp 32], .some 33))] [])))
  (.reg [(none, (.bin .add (.tmp 27) (.const (.int .i64 1)), .some 34)), (none, (.mov (.tmp 34), .some 27))] [])))))))))
theorem b129 : Try.f129.body.bind (compC Try.prog) = some c129 := by kernel_rfl
theorem r129 : compR Try.prog Try.f129 = .some [] := by kernel_rfl
theorem n129 : (Try.f129.name == "runtime.NumGoroutine") = false := by kernel_rfl
def c130 : C := .seq
  (.reg [(none, (.mov (.const (.int .i64 0)), .some 2))] []) (.seq (.seq
  (.reg [(none, (.mov (.tmp 0), .some 3)), (none, (.eqp .false (.tmp 3) (.const (.pointer none)), .some 4))] []) (.cond (.tmp 4) (.seq
  (.reg [(none, (.mov (.const (.int .i64 19)), .some 2))] []) .ret) .skip)) (.seq
  (.reg [(none, (.mov (.tmp 0), .some 5)), (none, (.nilc (.tmp 5), .some 6)), (none, (.fadr 2 (.tmp 6), .some 7)), (none, (.load none (.tmp 7), .some 8)), (none, (.mov (.tmp 8), .some 2))] []) .ret))
theorem b130 : Try.f130.body.bind (compC Try.prog) = some c130 := by kernel_rfl
theorem r130 : compR Try.prog Try.f130 = .some [.tmp 2] := by kernel_rfl
theorem n130 : (Try.f130.name == "runtime.NumGoroutine") = false := by kernel_rfl
def c168 : C := .seq
  (.reg [(none, (.mov (.const (.slice none 0 0)), .some 4)), (none, (.mov (.const (.bool .false)), .some 5))] []) (.seq
  (.reg [(none, (.mov (.const (.slice none 0 0)), .some 6))] []) (.seq (.seq
  (.reg [(none, (.mov (.tmp 1), .some 9)), (none, (.len .false (.tmp 9), .some 10)), (none, (.mov (.const (.int .i64 0)), .some 11))] []) (.block 0 (.loop (.seq
  (.reg [(none, (.bin .lss (.tmp 11) (.tmp 10), .some 12))] []) (.seq (.cond (.tmp 12) .skip (.exit 0)) (.seq (.block 1 (.seq
  (.reg [(none, (.iadr 1 (.tmp 9) (.tmp 11), .some 13)), (none, (.load none (.tmp 13), .some 14)), (none, (.mov (.tmp 14), .some 8))] []) (.seq (.seq
  (.reg [(none, (.mov (.tmp 8), .some 15)), (none, (.mov (.tmp 0), .some 16)), (none, (.bin .geq (.tmp 15) (.tmp 16), .some 17))] []) (.cond (.tmp 17) (.seq
  (.reg [(none, (.mov (.const (.slice none 0 0)), .some 4)), (none, (.mov (.const (.bool .false)), .some 5))] []) .ret) .skip)) (.seq
  (.reg [(none, (.mov (.tmp 6), .some 18)), (none, (.mov (.tmp 0), .some 19)), (none, (.mov (.tmp 8), .some 20)), (none, (.bin .sub (.tmp 19) (.tmp 20), .some 21)), (none, (.bin .sub (.tmp 21) (.const (.int .u64 1)), .some 22)), (none, (.bsl 1 [.tmp 22], .some 23)), (none, (.app 1 8 (.tmp 18) (.tmp 23), .some 24)), (none, (.mov (.tmp 24), .some 6))] [])
  (.reg [(none, (.mov (.tmp 8), .some 25)), (none, (.mov (.tmp 25), .some 0))] [])))))
  (.reg [(none, (.bin .add (.tmp 11) (.const (.int .i64 1)), .some 26)), (none, (.mov (.tmp 26), .some 11))] []))))))) (.seq
  (.reg [(none, (.mov (.tmp 6), .some 27)), (none, (.mov (.tmp 27), .some 4)), (none, (.mov (.const (.bool .true)), .some 5))] []) .ret)))
theorem b168 : Try.f168.body.bind (compC Try.prog) = some c168 := by kernel_rfl
theorem r168 : compR Try.prog Try.f168 = .some [.tmp 4, .tmp 5] := by kernel_rfl
theorem n168 : (Try.f168.name == "runtime.NumGoroutine") = false := by kernel_rfl
def c174 : C := .seq
  (.reg [(none, (.mov (.const (.int .i64 0)), .some 2))] []) (.seq (.seq
  (.reg [(none, (.mov (.tmp 0), .some 3)), (none, (.eqp .false (.tmp 3) (.const (.pointer none)), .some 4))] []) (.cond (.tmp 4) (.seq
  (.reg [(none, (.mov (.const (.int .i64 0)), .some 2))] []) .ret) .skip)) (.seq
  (.reg [(none, (.mov (.tmp 0), .some 5)), (none, (.nilc (.tmp 5), .some 6)), (none, (.fadr 0 (.tmp 6), .some 7)), (none, (.load none (.tmp 7), .some 8)), (none, (.mov (.tmp 0), .some 9)), (none, (.nilc (.tmp 9), .some 10)), (none, (.fadr 1 (.tmp 10), .some 11)), (none, (.load none (.tmp 11), .some 12)), (none, (.len .false (.tmp 12), .some 13)), (none, (.bin .sub (.tmp 8) (.tmp 13), .some 14)), (none, (.mov (.tmp 14), .some 2))] [(3, 7)]) .ret))
theorem b174 : Try.f174.body.bind (compC Try.prog) = some c174 := by kernel_rfl
theorem r174 : compR Try.prog Try.f174 = .some [.tmp 2] := by kernel_rfl
theorem n174 : (Try.f174.name == "runtime.NumGoroutine") = false := by kernel_rfl
end Go.Proofs.Ytkhnfleejgfhgaa
