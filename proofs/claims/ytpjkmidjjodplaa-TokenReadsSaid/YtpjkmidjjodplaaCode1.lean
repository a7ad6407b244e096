/-
  The codes of the seat's functions over abstract values, each shown to be its function's own (by program: wip/tools/codes.py).
-/
import Derived.Test.YtpjkmidjjodplaaA2
import Derived.Test.YtpjkmidjjodplaaProg
import Derived.KernelRfl
namespace Go.Proofs.Ytpjkmidjjodplaa
def c21 : C := .seq
  (.reg [(none, (.mov (.const (.bool .false)), .some 4))] []) (.seq
  (.reg [(none, (.mov (.tmp 0), .some 5)), (none, (.b2s (.tmp 5), .some 6)), (none, (.mov (.tmp 1), .some 7)), (none, (.b2s (.tmp 7), .some 8)), (none, (.bin .eql (.tmp 6) (.tmp 8), .some 9)), (none, (.mov (.tmp 9), .some 4))] []) .ret)
theorem b21 : Try.f21.body.bind (compC Try.prog) = some c21 := by kernel_rfl
theorem r21 : compR Try.prog Try.f21 = .some [.tmp 4] := by kernel_rfl
theorem n21 : (Try.f21.name == "runtime.NumGoroutine") = false := by kernel_rfl
def c30 : C := .block 0 (.seq
  (.reg [(none, (.mov (.tmp 0), .some 14)), (none, (.call (.func 76) [.tmp 14], .some 15)), (none, (.bin .neq (.tmp 15) (.const (.int .i64 0)), .some 16)), (none, (.mov (.tmp 16), .some 13))] []) (.cond (.tmp 13) .skip (.seq
  (.reg [(none, (.mov (.tmp 1), .some 18)), (none, (.len .false (.tmp 18), .some 19)), (none, (.mov (.tmp 0), .some 20)), (none, (.call (.func 77) [.tmp 20], .some 21)), (none, (.bin .gtr (.tmp 19) (.tmp 21), .some 22)), (none, (.mov (.tmp 22), .some 17))] []) (.cond (.tmp 17)
  (.reg [(none, (.mov (.tmp 0), .some 23)), (none, (.call (.func 78) [.tmp 23, .const (.int .i64 2)], .some 24))] [])
  (.reg [(none, (.mov (.tmp 0), .some 4)), (none, (.mov (.tmp 0), .some 5)), (none, (.nilc (.tmp 5), .some 6)), (none, (.fadr 1 (.tmp 6), .some 7)), (none, (.load none (.tmp 7), .some 8)), (none, (.mov (.tmp 1), .some 9)), (none, (.app 1 1 (.tmp 8) (.tmp 9), .some 10)), (none, (.nilc (.tmp 4), .some 11)), (none, (.fadr 1 (.tmp 11), .some 12)), (none, (.store 1 (.tmp 12) (.tmp 10), none))] [])))))
theorem b30 : Try.f30.body.bind (compC Try.prog) = some c30 := by kernel_rfl
theorem r30 : compR Try.prog Try.f30 = .some [] := by kernel_rfl
theorem n30 : (Try.f30.name == "runtime.NumGoroutine") = false := by kernel_rfl
def c54 : C := .seq
  (.reg [(none, (.new [.slice none 0 0, .int .i64 0, .int .i64 0], .some 2))] []) (.seq
  (.reg [(none, (.new [.slice none 0 0, .int .i64 0, .int .i64 0], .some 3))] []) (.seq
  (.reg [(none, (.mov (.tmp 0), .some 7)), (none, (.call (.func 58) [.tmp 7], .some 8)), (none, (.mov (.tmp 8), .some 6)), (none, (.ext (.tmp 6) 0, .some 9)), (none, (.ext (.tmp 6) 1, .some 10)), (none, (.mov (.tmp 9), .some 4)), (none, (.mov (.tmp 10), .some 5))] []) (.seq (.block 0 (.seq
  (.reg [(none, (.mov (.tmp 4), .some 12)), (none, (.mov (.tmp 12), .some 11))] []) (.cond (.tmp 11) (.seq
  (.reg [(none, (.mov (.tmp 5), .some 13)), (none, (.fadr 2 (.tmp 3), .some 14)), (none, (.store 1 (.tmp 14) (.tmp 13), none))] [])
  (.reg [(none, (.mov (.tmp 0), .some 15)), (none, (.call (.func 59) [.tmp 15], .some 16)), (none, (.fadr 1 (.tmp 3), .some 17)), (none, (.store 1 (.tmp 17) (.tmp 16), none))] [])) (.seq
  (.reg [(none, (.mov (.tmp 5), .some 19)), (none, (.bin .gtr (.tmp 19) (.const (.int .i64 0)), .some 20)), (none, (.mov (.tmp 20), .some 18))] []) (.cond (.tmp 18)
  (.reg [(none, (.mov (.tmp 0), .some 21)), (none, (.mov (.tmp 5), .some 22)), (none, (.call (.func 93) [.tmp 21, .tmp 22], .some 23)), (none, (.fadr 0 (.tmp 3), .some 24)), (none, (.store 1 (.tmp 24) (.tmp 23), none))] []) .skip))))) (.seq (.seq
  (.reg [(none, (.mov (.tmp 0), .some 25)), (none, (.call (.func 60) [.tmp 25], .some 26)), (none, (.un .not (.tmp 26), .some 27))] []) (.cond (.tmp 27) (.seq
  (.reg [(none, (.build [.slice none 0 0, .int .i64 0, .int .i64 0] [], .some 28)), (none, (.store 3 (.tmp 2) (.tmp 28), none))] []) .ret) .skip)) (.seq
  (.reg [(none, (.load (.some 3) (.tmp 3), .some 29)), (none, (.store 3 (.tmp 2) (.tmp 29), none))] []) .ret)))))
theorem b54 : Try.f54.body.bind (compC Try.prog) = some c54 := by kernel_rfl
theorem r54 : compR Try.prog Try.f54 = .some [.cell 2 (.some 3)] := by kernel_rfl
theorem n54 : (Try.f54.name == "runtime.NumGoroutine") = false := by kernel_rfl
def c55 : C := .seq
  (.reg [(none, (.box (.tmp 0), .some 1)), (none, (.new [.slice none 0 0, .int .i64 0, .int .i64 0, .int .i64 0], .some 2)), (none, (.new [.slice none 0 0, .int .i64 0, .int .i64 0], .some 3))] []) (.seq
  (.reg [(none, (.load (.some 4) (.tmp 1), .some 11)), (none, (.call (.func 95) [.tmp 11], .some 12)), (none, (.mov (.tmp 12), .some 10)), (none, (.ext (.tmp 10) 0, .some 13)), (none, (.ext (.tmp 10) 1, .some 14)), (none, (.new [.slice none 0 0, .int .i64 0, .int .i64 0, .int .i64 0], .some 4)), (none, (.store 4 (.tmp 4) (.tmp 13), none)), (none, (.mov (.tmp 14), .some 5))] []) (.seq (.seq
  (.reg [(none, (.fadr 2 (.tmp 4), .some 15)), (none, (.fadr 0 (.tmp 15), .some 16)), (none, (.load none (.tmp 16), .some 17)), (none, (.bin .neq (.tmp 17) (.const (.int .i64 0)), .some 18))] []) (.cond (.tmp 18) (.seq
  (.reg [(none, (.load (.some 4) (.tmp 4), .some 19)), (none, (.build [.slice none 0 0, .int .i64 0, .int .i64 0] [], .some 20)), (none, (.store 4 (.tmp 2) (.tmp 19), none)), (none, (.store 3 (.tmp 3) (.tmp 20), none))] []) .ret) .skip)) (.seq (.seq
  (.reg [(none, (.mov (.tmp 5), .some 21)), (none, (.bin .rem (.tmp 21) (.const (.int .u64 2)), .some 22)), (none, (.bin .eql (.tmp 22) (.const (.int .u64 0)), .some 23))] []) (.cond (.tmp 23) (.seq (.seq
  (.reg [(none, (.mov (.tmp 5), .some 24)), (none, (.bin .quo (.tmp 24) (.const (.int .u64 2)), .some 25)), (none, (.bin .add (.tmp 25) (.const (.int .u64 1)), .some 26)), (none, (.bin .gtr (.tmp 26) (.const (.int .u64 1048576)), .some 27))] []) (.cond (.tmp 27) (.seq
  (.reg [(none, (.load (.some 4) (.tmp 4), .some 28)), (none, (.fadr 1 (.tmp 1), .some 29)), (none, (.load none (.tmp 29), .some 30)), (none, (.call (.func 97) [.tmp 28, .const (.int .i64 2), .tmp 30], .some 31)), (none, (.build [.slice none 0 0, .int .i64 0, .int .i64 0] [], .some 32)), (none, (.store 4 (.tmp 2) (.tmp 31), none)), (none, (.store 3 (.tmp 3) (.tmp 32), none))] []) .ret) .skip)) (.seq
  (.reg [(none, (.load (.some 4) (.tmp 4), .some 34)), (none, (.mov (.tmp 5), .some 35)), (none, (.bin .quo (.tmp 35) (.const (.int .u64 2)), .some 36)), (none, (.cvt .i64 (.tmp 36), .some 37)), (none, (.bin .add (.tmp 37) (.const (.int .i64 1)), .some 38)), (none, (.call (.func 98) [.tmp 34, .tmp 38], .some 39)), (none, (.mov (.tmp 39), .some 33)), (none, (.ext (.tmp 33) 0, .some 40)), (none, (.ext (.tmp 33) 1, .some 41)), (none, (.new [.slice none 0 0, .int .i64 0, .int .i64 0, .int .i64 0], .some 6)), (none, (.store 4 (.tmp 6) (.tmp 40), none)), (none, (.mov (.tmp 41), .some 7))] []) (.seq (.seq
  (.reg [(none, (.fadr 2 (.tmp 6), .some 42)), (none, (.fadr 0 (.tmp 42), .some 43)), (none, (.load none (.tmp 43), .some 44)), (none, (.bin .neq (.tmp 44) (.const (.int .i64 0)), .some 45))] []) (.cond (.tmp 45) (.seq
  (.reg [(none, (.load (.some 4) (.tmp 6), .some 46)), (none, (.build [.slice none 0 0, .int .i64 0, .int .i64 0] [], .some 47)), (none, (.store 4 (.tmp 2) (.tmp 46), none)), (none, (.store 3 (.tmp 3) (.tmp 47), none))] []) .ret) .skip)) (.seq
  (.reg [(none, (.load (.some 4) (.tmp 6), .some 48)), (none, (.mov (.tmp 7), .some 49)), (none, (.build [.slice none 0 0, .int .i64 0, .int .i64 0] [(0, (1, .tmp 49))], .some 50)), (none, (.store 4 (.tmp 2) (.tmp 48), none)), (none, (.store 3 (.tmp 3) (.tmp 50), none))] []) .ret)))) .skip)) (.seq (.seq
  (.reg [(none, (.mov (.tmp 5), .some 51)), (none, (.bin .quo (.tmp 51) (.const (.int .u64 2)), .some 52)), (none, (.bin .gtr (.tmp 52) (.const (.int .u64 1048572)), .some 53))] []) (.cond (.tmp 53) (.seq
  (.reg [(none, (.load (.some 4) (.tmp 4), .some 54)), (none, (.fadr 1 (.tmp 1), .some 55)), (none, (.load none (.tmp 55), .some 56)), (none, (.call (.func 97) [.tmp 54, .const (.int .i64 2), .tmp 56], .some 57)), (none, (.build [.slice none 0 0, .int .i64 0, .int .i64 0] [], .some 58)), (none, (.store 4 (.tmp 2) (.tmp 57), none)), (none, (.store 3 (.tmp 3) (.tmp 58), none))] []) .ret) .skip)) (.seq
  (.reg [(none, (.load (.some 4) (.tmp 4), .some 60)), (none, (.call (.func 95) [.tmp 60], .some 61)), (none, (.mov (.tmp 61), .some 59)), (none, (.ext (.tmp 59) 0, .some 62)), (none, (.ext (.tmp 59) 1, .some 63)), (none, (.new [.slice none 0 0, .int .i64 0, .int .i64 0, .int .i64 0], .some 8)), (none, (.store 4 (.tmp 8) (.tmp 62), none)), (none, (.mov (.tmp 63), .some 9))] []) (.seq (.seq
  (.reg [(none, (.fadr 2 (.tmp 8), .some 64)), (none, (.fadr 0 (.tmp 64), .some 65)), (none, (.load none (.tmp 65), .some 66)), (none, (.bin .neq (.tmp 66) (.const (.int .i64 0)), .some 67))] []) (.cond (.tmp 67) (.seq
  (.reg [(none, (.load (.some 4) (.tmp 8), .some 68)), (none, (.build [.slice none 0 0, .int .i64 0, .int .i64 0] [], .some 69)), (none, (.store 4 (.tmp 2) (.tmp 68), none)), (none, (.store 3 (.tmp 3) (.tmp 69), none))] []) .ret) .skip)) (.seq (.seq
  (.reg [(none, (.mov (.tmp 9), .some 70)), (none, (.bin .gtr (.tmp 70) (.const (.int .u64 65535)), .some 71))] []) (.cond (.tmp 71) (.seq
  (.reg [(none, (.load (.some 4) (.tmp 8), .some 72)), (none, (.fadr 1 (.tmp 4), .some 73)), (none, (.load none (.tmp 73), .some 74)), (none, (.call (.func 97) [.tmp 72, .const (.int .i64 10), .tmp 74], .some 75)), (none, (.build [.slice none 0 0, .int .i64 0, .int .i64 0] [], .some 76)), (none, (.store 4 (.tmp 2) (.tmp 75), none)), (none, (.store 3 (.tmp 3) (.tmp 76), none))] []) .ret) .skip)) (.seq
  (.reg [(none, (.load (.some 4) (.tmp 8), .some 77)), (none, (.mov (.tmp 9), .some 78)), (none, (.cvt .i64 (.tmp 78), .some 79)), (none, (.bin .add (.tmp 79) (.const (.int .i64 1)), .some 80)), (none, (.mov (.tmp 5), .some 81)), (none, (.bin .quo (.tmp 81) (.const (.int .u64 2)), .some 82)), (none, (.cvt .i64 (.tmp 82), .some 83)), (none, (.bin .add (.tmp 83) (.const (.int .i64 4)), .some 84)), (none, (.build [.slice none 0 0, .int .i64 0, .int .i64 0] [(1, (1, .tmp 80)), (2, (1, .tmp 84))], .some 85)), (none, (.store 4 (.tmp 2) (.tmp 77), none)), (none, (.store 3 (.tmp 3) (.tmp 85), none))] []) .ret))))))))
theorem b55 : Try.f55.body.bind (compC Try.prog) = some c55 := by kernel_rfl
theorem r55 : compR Try.prog Try.f55 = .some [.cell 2 (.some 4), .cell 3 (.some 3)] := by kernel_rfl
theorem n55 : (Try.f55.name == "runtime.NumGoroutine") = false := by kernel_rfl
def c56 : C := .seq
  (.reg [(none, (.new [.int .i64 0, .int .i64 0], .some 2))] []) (.seq (.seq
  (.reg [(none, (.mov (.tmp 0), .some 3)), (none, (.eqp .false (.tmp 3) (.const (.pointer none)), .some 4))] []) (.cond (.tmp 4) (.seq
  (.reg [(none, (.call (.func 71) [.const (.int .i64 19), .const (.int .i64 0)], .some 5)), (none, (.store 2 (.tmp 2) (.tmp 5), none))] []) .ret) .skip)) (.seq
  (.reg [(none, (.mov (.tmp 0), .some 6)), (none, (.nilc (.tmp 6), .some 7)), (none, (.fadr 2 (.tmp 7), .some 8)), (none, (.load (.some 2) (.tmp 8), .some 9)), (none, (.store 2 (.tmp 2) (.tmp 9), none))] []) .ret))
theorem b56 : Try.f56.body.bind (compC Try.prog) = some c56 := by kernel_rfl
theorem r56 : compR Try.prog Try.f56 = .some [.cell 2 (.some 2)] := by kernel_rfl
theorem n56 : (Try.f56.name == "runtime.NumGoroutine") = false := by kernel_rfl
def c58 : C := .seq
  (.reg [(none, (.mov (.const (.bool .false)), .some 2)), (none, (.mov (.const (.int .i64 0)), .some 3))] []) (.seq
  (.reg [(none, (.mov (.tmp 0), .some 9)), (none, (.call (.func 57) [.tmp 9], .some 10)), (none, (.mov (.tmp 10), .some 4))] []) (.seq
  (.reg [(none, (.mov (.tmp 0), .some 11)), (none, (.call (.func 99) [.tmp 11], .some 12)), (none, (.mov (.tmp 12), .some 5))] []) (.seq (.seq
  (.reg [(none, (.mov (.tmp 0), .some 13)), (none, (.call (.func 60) [.tmp 13], .some 14)), (none, (.un .not (.tmp 14), .some 15))] []) (.cond (.tmp 15) (.seq
  (.reg [(none, (.mov (.const (.bool .false)), .some 2)), (none, (.mov (.const (.int .i64 0)), .some 3))] []) .ret) .skip)) (.seq
  (.reg [(none, (.mov (.tmp 5), .some 16)), (none, (.bin .rem (.tmp 16) (.const (.int .u64 2)), .some 17)), (none, (.bin .eql (.tmp 17) (.const (.int .u64 1)), .some 18)), (none, (.mov (.tmp 18), .some 6)), (none, (.mov (.const (.int .i64 1)), .some 7)), (none, (.mov (.const (.int .i64 1048576)), .some 8))] []) (.seq (.seq
  (.reg [(none, (.mov (.tmp 6), .some 19))] []) (.cond (.tmp 19)
  (.reg [(none, (.mov (.const (.int .i64 4)), .some 7)), (none, (.mov (.const (.int .i64 1048576)), .some 8))] []) .skip)) (.seq (.seq
  (.reg [(none, (.mov (.tmp 5), .some 20)), (none, (.bin .quo (.tmp 20) (.const (.int .u64 2)), .some 21)), (none, (.mov (.tmp 8), .some 22)), (none, (.mov (.tmp 7), .some 23)), (none, (.bin .sub (.tmp 22) (.tmp 23), .some 24)), (none, (.cvt .u64 (.tmp 24), .some 25)), (none, (.bin .gtr (.tmp 21) (.tmp 25), .some 26))] []) (.cond (.tmp 26) (.seq
  (.reg [(none, (.mov (.tmp 0), .some 27)), (none, (.mov (.tmp 4), .some 28)), (none, (.call (.func 92) [.tmp 27, .const (.int .i64 2), .tmp 28], .some 29))] []) (.seq
  (.reg [(none, (.mov (.const (.bool .false)), .some 2)), (none, (.mov (.const (.int .i64 0)), .some 3))] []) .ret)) .skip)) (.seq
  (.reg [(none, (.mov (.tmp 6), .some 30)), (none, (.mov (.tmp 5), .some 31)), (none, (.bin .quo (.tmp 31) (.const (.int .u64 2)), .some 32)), (none, (.cvt .i64 (.tmp 32), .some 33)), (none, (.mov (.tmp 7), .some 34)), (none, (.bin .add (.tmp 33) (.tmp 34), .some 35)), (none, (.mov (.tmp 30), .some 2)), (none, (.mov (.tmp 35), .some 3))] []) .ret)))))))
theorem b58 : Try.f58.body.bind (compC Try.prog) = some c58 := by kernel_rfl
theorem r58 : compR Try.prog Try.f58 = .some [.tmp 2, .tmp 3] := by kernel_rfl
theorem n58 : (Try.f58.name == "runtime.NumGoroutine") = false := by kernel_rfl
def c71 : C := .seq
  (.reg [(none, (.new [.int .i64 0, .int .i64 0], .some 4))] []) (.seq (.seq
  (.reg [(none, (.mov (.tmp 0), .some 5)), (none, (.bin .eql (.tmp 5) (.const (.int .i64 0)), .some 6))] []) (.cond (.tmp 6) (.seq
  (.reg [(none, (.build [.int .i64 0, .int .i64 0] [], .some 7)), (none, (.store 2 (.tmp 4) (.tmp 7), none))] []) .ret) .skip)) (.seq
  (.reg [(none, (.mov (.tmp 0), .some 8)), (none, (.mov (.tmp 1), .some 9)), (none, (.build [.int .i64 0, .int .i64 0] [(0, (1, .tmp 8)), (1, (1, .tmp 9))], .some 10)), (none, (.store 2 (.tmp 4) (.tmp 10), none))] []) .ret))
theorem b71 : Try.f71.body.bind (compC Try.prog) = some c71 := by kernel_rfl
theorem r71 : compR Try.prog Try.f71 = .some [.cell 4 (.some 2)] := by kernel_rfl
theorem n71 : (Try.f71.name == "runtime.NumGoroutine") = false := by kernel_rfl
def c77 : C := .seq
  (.reg [(none, (.mov (.const (.int .i64 0)), .some 2))] []) (.seq (.seq
  (.reg [(none, (.mov (.tmp 0), .some 3)), (none, (.eqp .false (.tmp 3) (.const (.pointer none)), .some 4))] []) (.cond (.tmp 4) (.seq
  (.reg [(none, (.mov (.const (.int .i64 0)), .some 2))] []) .ret) .skip)) (.seq
  (.reg [(none, (.mov (.tmp 0), .some 5)), (none, (.nilc (.tmp 5), .some 6)), (none, (.fadr 0 (.tmp 6), .some 7)), (none, (.load none (.tmp 7), .some 8)), (none, (.mov (.tmp 0), .some 9)), (none, (.nilc (.tmp 9), .some 10)), (none, (.fadr 1 (.tmp 10), .some 11)), (none, (.load none (.tmp 11), .some 12)), (none, (.len .false (.tmp 12), .some 13)), (none, (.bin .sub (.tmp 8) (.tmp 13), .some 14)), (none, (.mov (.tmp 14), .some 2))] [(3, 7)]) .ret))
theorem b77 : Try.f77.body.bind (compC Try.prog) = some c77 := by kernel_rfl
theorem r77 : compR Try.prog Try.f77 = .some [.tmp 2] := by kernel_rfl
theorem n77 : (Try.f77.name == "runtime.NumGoroutine") = false := by kernel_rfl
def c86 : C := .reg [(none, (.mov (.tmp 0), .some 4)), (none, (.mov (.tmp 1), .some 5)), (none, (.call (.func 114) [.tmp 5], .some 6)), (none, (.call (.func 30) [.tmp 4, .tmp 6], .some 7))] []
theorem b86 : Try.f86.body.bind (compC Try.prog) = some c86 := by kernel_rfl
theorem r86 : compR Try.prog Try.f86 = .some [] := by kernel_rfl
theorem n86 : (Try.f86.name == "runtime.NumGoroutine") = false := by kernel_rfl
def c93 : C := .seq
  (.reg [(none, (.mov (.const (.slice none 0 0)), .some 4))] []) (.seq (.seq
  (.reg [(none, (.mov (.tmp 0), .some 5)), (none, (.mov (.tmp 1), .some 6)), (none, (.call (.func 115) [.tmp 5, .tmp 6], .some 7)), (none, (.un .not (.tmp 7), .some 8))] []) (.cond (.tmp 8) (.seq
  (.reg [(none, (.mov (.const (.slice none 0 0)), .some 4))] []) .ret) .skip)) (.seq
  (.reg [(none, (.bsl 1 [], .some 9)), (none, (.mov (.tmp 0), .some 10)), (none, (.nilc (.tmp 10), .some 11)), (none, (.fadr 0 (.tmp 11), .some 12)), (none, (.load none (.tmp 12), .some 13)), (none, (.mov (.tmp 0), .some 14)), (none, (.nilc (.tmp 14), .some 15)), (none, (.fadr 1 (.tmp 15), .some 16)), (none, (.load none (.tmp 16), .some 17)), (none, (.mov (.tmp 1), .some 18)), (none, (.bin .sub (.tmp 17) (.tmp 18), .some 19)), (none, (.mov (.tmp 0), .some 20)), (none, (.nilc (.tmp 20), .some 21)), (none, (.fadr 1 (.tmp 21), .some 22)), (none, (.load none (.tmp 22), .some 23)), (none, (.slice 1 (.tmp 13) (.some (.tmp 19)) (.some (.tmp 23)) none, .some 24)), (none, (.app 1 1 (.tmp 9) (.tmp 24), .some 25)), (none, (.mov (.tmp 25), .some 4))] [(4, 8), (4, 14), (8, 14)]) .ret))
theorem b93 : Try.f93.body.bind (compC Try.prog) = some c93 := by kernel_rfl
theorem r93 : compR Try.prog Try.f93 = .some [.tmp 4] := by kernel_rfl
theorem n93 : (Try.f93.name == "runtime.NumGoroutine") = false := by kernel_rfl
def c98 : C := .seq
  (.reg [(none, (.box (.tmp 0), .some 2)), (none, (.new [.slice none 0 0, .int .i64 0, .int .i64 0, .int .i64 0], .some 4)), (none, (.mov (.const (.slice none 0 0)), .some 5))] []) (.seq (.seq
  (.reg [(none, (.fadr 2 (.tmp 2), .some 7)), (none, (.fadr 0 (.tmp 7), .some 8)), (none, (.load none (.tmp 8), .some 9)), (none, (.bin .neq (.tmp 9) (.const (.int .i64 0)), .some 10))] []) (.cond (.tmp 10) (.seq
  (.reg [(none, (.load (.some 4) (.tmp 2), .some 11)), (none, (.store 4 (.tmp 4) (.tmp 11), none)), (none, (.mov (.const (.slice none 0 0)), .some 5))] []) .ret) .skip)) (.seq (.seq
  (.reg [(none, (.mov (.tmp 1), .some 12)), (none, (.bin .lss (.tmp 12) (.const (.int .i64 0)), .some 13))] []) (.cond (.tmp 13) (.seq
  (.reg [(none, (.load (.some 4) (.tmp 2), .some 14)), (none, (.fadr 1 (.tmp 2), .some 15)), (none, (.load none (.tmp 15), .some 16)), (none, (.call (.func 97) [.tmp 14, .const (.int .i64 17), .tmp 16], .some 17)), (none, (.store 4 (.tmp 4) (.tmp 17), none)), (none, (.mov (.const (.slice none 0 0)), .some 5))] []) .ret) .skip)) (.seq (.seq
  (.reg [(none, (.mov (.tmp 1), .some 18)), (none, (.fadr 0 (.tmp 2), .some 19)), (none, (.load none (.tmp 19), .some 20)), (none, (.len .false (.tmp 20), .some 21)), (none, (.fadr 1 (.tmp 2), .some 22)), (none, (.load none (.tmp 22), .some 23)), (none, (.bin .sub (.tmp 21) (.tmp 23), .some 24)), (none, (.bin .gtr (.tmp 18) (.tmp 24), .some 25))] []) (.cond (.tmp 25) (.seq
  (.reg [(none, (.load (.some 4) (.tmp 2), .some 26)), (none, (.fadr 0 (.tmp 2), .some 27)), (none, (.load none (.tmp 27), .some 28)), (none, (.len .false (.tmp 28), .some 29)), (none, (.call (.func 97) [.tmp 26, .const (.int .i64 1), .tmp 29], .some 30)), (none, (.store 4 (.tmp 4) (.tmp 30), none)), (none, (.mov (.const (.slice none 0 0)), .some 5))] []) .ret) .skip)) (.seq
  (.reg [(none, (.mov (.const (.slice none 0 0)), .some 6))] []) (.seq
  (.reg [(none, (.mov (.tmp 6), .some 31)), (none, (.fadr 0 (.tmp 2), .some 32)), (none, (.load none (.tmp 32), .some 33)), (none, (.fadr 1 (.tmp 2), .some 34)), (none, (.load none (.tmp 34), .some 35)), (none, (.fadr 1 (.tmp 2), .some 36)), (none, (.load none (.tmp 36), .some 37)), (none, (.mov (.tmp 1), .some 38)), (none, (.bin .add (.tmp 37) (.tmp 38), .some 39)), (none, (.slice 1 (.tmp 33) (.some (.tmp 35)) (.some (.tmp 39)) none, .some 40)), (none, (.app 1 1 (.tmp 31) (.tmp 40), .some 41)), (none, (.mov (.tmp 41), .some 6))] []) (.seq
  (.reg [(none, (.fadr 1 (.tmp 2), .some 42)), (none, (.load none (.tmp 42), .some 43)), (none, (.mov (.tmp 1), .some 44)), (none, (.bin .add (.tmp 43) (.tmp 44), .some 45)), (none, (.fadr 1 (.tmp 2), .some 46)), (none, (.store 1 (.tmp 46) (.tmp 45), none))] []) (.seq
  (.reg [(none, (.load (.some 4) (.tmp 2), .some 47)), (none, (.mov (.tmp 6), .some 48)), (none, (.store 4 (.tmp 4) (.tmp 47), none)), (none, (.mov (.tmp 48), .some 5))] []) .ret)))))))
theorem b98 : Try.f98.body.bind (compC Try.prog) = some c98 := by kernel_rfl
theorem r98 : compR Try.prog Try.f98 = .some [.cell 4 (.some 4), .tmp 5] := by kernel_rfl
theorem n98 : (Try.f98.name == "runtime.NumGoroutine") = false := by kernel_rfl
end Go.Proofs.Ytpjkmidjjodplaa
