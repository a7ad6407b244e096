/-
  The codes of the seat's functions over abstract values, each shown to be its function's own (by program: wip/tools/codes.py).
-/
import Derived.Test.YtpjkmidjjodplaaA2
import Derived.Test.YtpjkmidjjodplaaProg
import Derived.KernelRfl
namespace Go.Proofs.Ytpjkmidjjodplaa
def c19 : C := .seq
  (.reg [(none, (.mov (.const (.slice none 0 0)), .some 4)), (none, (.new [.int .i64 0, .int .i64 0], .some 5))] []) (.seq
  (.reg [(none, (.mov (.const (.slice none 0 0)), .some 6))] []) (.seq (.seq
  (.reg [(none, (.mov (.tmp 0), .some 10)), (none, (.len .false (.tmp 10), .some 11)), (none, (.mov (.const (.int .i64 0)), .some 12))] []) (.block 0 (.loop (.seq
  (.reg [(none, (.bin .lss (.tmp 12) (.tmp 11), .some 13))] []) (.seq (.cond (.tmp 13) .skip (.exit 0)) (.seq (.block 1 (.seq
  (.reg [(none, (.mov (.tmp 12), .some 14)), (none, (.iadr 3 (.tmp 10) (.tmp 12), .some 15)), (none, (.load (.some 3) (.tmp 15), .some 16)), (none, (.new [.slice none 0 0, .int .i64 0, .int .i64 0], .some 8)), (none, (.mov (.tmp 14), .some 7)), (none, (.store 3 (.tmp 8) (.tmp 16), none))] []) (.seq (.seq
  (.reg [(none, (.load (.some 3) (.tmp 8), .some 17)), (none, (.mov (.tmp 6), .some 18)), (none, (.len .false (.tmp 18), .some 19)), (none, (.mov (.tmp 1), .some 20)), (none, (.call (.func 70) [.tmp 17, .tmp 19, .tmp 20], .some 21)), (none, (.mov (.tmp 21), .some 9))] []) (.seq
  (.reg [(none, (.mov (.tmp 9), .some 22)), (none, (.bin .neq (.tmp 22) (.const (.int .i64 0)), .some 23))] []) (.cond (.tmp 23) (.seq
  (.reg [(none, (.mov (.tmp 9), .some 24)), (none, (.mov (.tmp 7), .some 25)), (none, (.call (.func 71) [.tmp 24, .tmp 25], .some 26)), (none, (.mov (.const (.slice none 0 0)), .some 4)), (none, (.store 2 (.tmp 5) (.tmp 26), none))] []) .ret) .skip))) (.seq
  (.reg [(none, (.mov (.tmp 6), .some 27)), (none, (.fadr 0 (.tmp 8), .some 28)), (none, (.load none (.tmp 28), .some 29)), (none, (.app 1 1 (.tmp 27) (.tmp 29), .some 30)), (none, (.mov (.tmp 30), .some 6))] [])
  (.reg [(none, (.mov (.tmp 6), .some 31)), (none, (.fadr 1 (.tmp 8), .some 32)), (none, (.load none (.tmp 32), .some 33)), (none, (.fadr 2 (.tmp 8), .some 34)), (none, (.load none (.tmp 34), .some 35)), (none, (.call (.func 72) [.tmp 31, .tmp 33, .tmp 35], .some 36)), (none, (.mov (.tmp 36), .some 6))] [])))))
  (.reg [(none, (.bin .add (.tmp 12) (.const (.int .i64 1)), .some 37)), (none, (.mov (.tmp 37), .some 12))] []))))))) (.seq
  (.reg [(none, (.mov (.tmp 6), .some 38)), (none, (.build [.int .i64 0, .int .i64 0] [], .some 39)), (none, (.mov (.tmp 38), .some 4)), (none, (.store 2 (.tmp 5) (.tmp 39), none))] []) .ret)))
theorem b19 : Try.f19.body.bind (compC Try.prog) = some c19 := by kernel_rfl
theorem r19 : compR Try.prog Try.f19 = .some [.tmp 4, .cell 5 (.some 2)] := by kernel_rfl
theorem n19 : (Try.f19.name == "runtime.NumGoroutine") = false := by kernel_rfl
def c21 : C := .seq
  (.reg [(none, (.mov (.const (.bool .false)), .some 4))] []) (.seq
  (.reg [(none, (.mov (.tmp 0), .some 5)), (none, (.b2s (.tmp 5), .some 6)), (none, (.mov (.tmp 1), .some 7)), (none, (.b2s (.tmp 7), .some 8)), (none, (.bin .eql (.tmp 6) (.tmp 8), .some 9)), (none, (.mov (.tmp 9), .some 4))] []) .ret)
theorem b21 : Try.f21.body.bind (compC Try.prog) = some c21 := by kernel_rfl
theorem r21 : compR Try.prog Try.f21 = .some [.tmp 4] := by kernel_rfl
theorem n21 : (Try.f21.name == "runtime.NumGoroutine") = false := by kernel_rfl
def c22 : C := .seq
  (.reg [(none, (.box (.tmp 0), .some 1)), (none, (.mov (.const (.int .i64 0)), .some 2))] []) (.seq (.seq
  (.reg [(none, (.load (.some 3) (.tmp 1), .some 3)), (none, (.call (.func 25) [.tmp 3], .some 4))] []) (.cond (.tmp 4) (.seq
  (.reg [(none, (.fadr 0 (.tmp 1), .some 5)), (none, (.load none (.tmp 5), .some 6)), (none, (.len .false (.tmp 6), .some 7)), (none, (.mov (.tmp 7), .some 2))] []) .ret) .skip)) (.seq (.seq
  (.reg [(none, (.load (.some 3) (.tmp 1), .some 8)), (none, (.call (.func 26) [.tmp 8], .some 9))] []) (.cond (.tmp 9) (.seq
  (.reg [(none, (.fadr 2 (.tmp 1), .some 10)), (none, (.load none (.tmp 10), .some 11)), (none, (.mov (.tmp 11), .some 2))] []) .ret) .skip)) (.seq
  (.reg [(none, (.mov (.const (.int .i64 0)), .some 2))] []) .ret)))
theorem b22 : Try.f22.body.bind (compC Try.prog) = some c22 := by kernel_rfl
theorem r22 : compR Try.prog Try.f22 = .some [.tmp 2] := by kernel_rfl
theorem n22 : (Try.f22.name == "runtime.NumGoroutine") = false := by kernel_rfl
def c23 : C := .seq
  (.reg [(none, (.mov (.const (.slice none 0 0)), .some 2)), (none, (.mov (.const (.bool .false)), .some 3))] []) (.seq (.seq
  (.reg [(none, (.mov (.tmp 0), .some 8)), (none, (.call (.func 75) [.tmp 8], .some 9)), (none, (.un .not (.tmp 9), .some 10))] []) (.cond (.tmp 10) (.seq
  (.reg [(none, (.mov (.const (.slice none 0 0)), .some 2)), (none, (.mov (.const (.bool .false)), .some 3))] []) .ret) .skip)) (.seq
  (.reg [(none, (.mov (.const (.slice none 0 0)), .some 4))] []) (.seq (.seq
  (.reg [(none, (.mov (.tmp 0), .some 11)), (none, (.len .false (.tmp 11), .some 12)), (none, (.mov (.const (.int .i64 0)), .some 13))] []) (.block 0 (.loop (.seq
  (.reg [(none, (.bin .lss (.tmp 13) (.tmp 12), .some 14))] []) (.seq (.cond (.tmp 14) .skip (.exit 0)) (.seq (.block 1 (.seq
  (.reg [(none, (.mov (.tmp 13), .some 15)), (none, (.iadr 3 (.tmp 11) (.tmp 13), .some 16)), (none, (.load (.some 3) (.tmp 16), .some 17)), (none, (.new [.slice none 0 0, .int .i64 0, .int .i64 0], .some 6)), (none, (.mov (.tmp 15), .some 5)), (none, (.store 3 (.tmp 6) (.tmp 17), none))] []) (.seq (.seq
  (.reg [(none, (.fadr 0 (.tmp 6), .some 18)), (none, (.load none (.tmp 18), .some 19)), (none, (.len .false (.tmp 19), .some 20)), (none, (.mov (.const (.int .i64 0)), .some 21))] []) (.block 2 (.loop (.seq
  (.reg [(none, (.bin .lss (.tmp 21) (.tmp 20), .some 22))] []) (.seq (.cond (.tmp 22) .skip (.exit 2)) (.seq (.block 3 (.seq
  (.reg [(none, (.mov (.tmp 21), .some 23)), (none, (.mov (.tmp 23), .some 7))] [])
  (.reg [(none, (.mov (.tmp 4), .some 24)), (none, (.mov (.tmp 5), .some 25)), (none, (.mov (.tmp 7), .some 26)), (none, (.build [.int .i64 0, .int .i64 0] [(0, (1, .tmp 25)), (1, (1, .tmp 26))], .some 27)), (none, (.bsl 2 [.tmp 27], .some 28)), (none, (.app 2 16 (.tmp 24) (.tmp 28), .some 29)), (none, (.mov (.tmp 29), .some 4))] [])))
  (.reg [(none, (.bin .add (.tmp 21) (.const (.int .i64 1)), .some 30)), (none, (.mov (.tmp 30), .some 21))] []))))))) (.seq
  (.reg [(none, (.fadr 2 (.tmp 6), .some 31)), (none, (.load none (.tmp 31), .some 32)), (none, (.mov (.const (.int .i64 0)), .some 33))] []) (.block 4 (.loop (.seq
  (.reg [(none, (.bin .lss (.tmp 33) (.tmp 32), .some 34))] []) (.seq (.cond (.tmp 34) .skip (.exit 4)) (.seq (.block 5
  (.reg [(none, (.mov (.tmp 4), .some 35)), (none, (.mov (.tmp 4), .some 36)), (none, (.mov (.tmp 4), .some 37)), (none, (.len .false (.tmp 37), .some 38)), (none, (.fadr 1 (.tmp 6), .some 39)), (none, (.load none (.tmp 39), .some 40)), (none, (.bin .sub (.tmp 38) (.tmp 40), .some 41)), (none, (.iadr 2 (.tmp 36) (.tmp 41), .some 42)), (none, (.load (.some 2) (.tmp 42), .some 43)), (none, (.bsl 2 [.tmp 43], .some 44)), (none, (.app 2 16 (.tmp 35) (.tmp 44), .some 45)), (none, (.mov (.tmp 45), .some 4))] []))
  (.reg [(none, (.bin .add (.tmp 33) (.const (.int .i64 1)), .some 46)), (none, (.mov (.tmp 46), .some 33))] []))))))))))
  (.reg [(none, (.bin .add (.tmp 13) (.const (.int .i64 1)), .some 47)), (none, (.mov (.tmp 47), .some 13))] []))))))) (.seq
  (.reg [(none, (.mov (.tmp 4), .some 48)), (none, (.mov (.tmp 48), .some 2)), (none, (.mov (.const (.bool .true)), .some 3))] []) .ret))))
theorem b23 : Try.f23.body.bind (compC Try.prog) = some c23 := by kernel_rfl
theorem r23 : compR Try.prog Try.f23 = .some [.tmp 2, .tmp 3] := by kernel_rfl
theorem n23 : (Try.f23.name == "runtime.NumGoroutine") = false := by kernel_rfl
def c40 : C := .seq
  (.reg [(none, (.box (.tmp 0), .some 1)), (none, (.mov (.const (.int .i64 0)), .some 2))] []) (.seq (.block 0 (.seq
  (.reg [(none, (.load (.some 3) (.tmp 1), .some 4)), (none, (.call (.func 38) [.tmp 4], .some 5)), (none, (.un .not (.tmp 5), .some 6)), (none, (.mov (.tmp 6), .some 3))] []) (.cond (.tmp 3) (.seq
  (.reg [(none, (.mov (.const (.int .i64 0)), .some 2))] []) .ret) (.seq
  (.reg [(none, (.fadr 1 (.tmp 1), .some 8)), (none, (.load none (.tmp 8), .some 9)), (none, (.bin .eql (.tmp 9) (.const (.int .i64 0)), .some 10)), (none, (.mov (.tmp 10), .some 7))] []) (.cond (.tmp 7) (.seq
  (.reg [(none, (.fadr 0 (.tmp 1), .some 11)), (none, (.load none (.tmp 11), .some 12)), (none, (.len .false (.tmp 12), .some 13)), (none, (.mov (.tmp 13), .some 2))] []) .ret) .skip))))) (.seq
  (.reg [(none, (.fadr 2 (.tmp 1), .some 14)), (none, (.load none (.tmp 14), .some 15)), (none, (.mov (.tmp 15), .some 2))] []) .ret))
theorem b40 : Try.f40.body.bind (compC Try.prog) = some c40 := by kernel_rfl
theorem r40 : compR Try.prog Try.f40 = .some [.tmp 2] := by kernel_rfl
theorem n40 : (Try.f40.name == "runtime.NumGoroutine") = false := by kernel_rfl
def c55 : C := .seq
  (.reg [(none, (.box (.tmp 0), .some 1)), (none, (.new [.slice none 0 0, .int .i64 0, .int .i64 0, .int .i64 0], .some 2)), (none, (.new [.slice none 0 0, .int .i64 0, .int .i64 0], .some 3))] []) (.seq
  (.reg [(none, (.load (.some 4) (.tmp 1), .some 11)), (none, (.call (.func 95) [.tmp 11], .some 12)), (none, (.mov (.tmp 12), .some 10)), (none, (.ext (.tmp 10) 0, .some 13)), (none, (.ext (.tmp 10) 1, .some 14)), (none, (.new [.slice none 0 0, .int .i64 0, .int .i64 0, .int .i64 0], .some 4)), (none, (.store 4 (.tmp 4) (.tmp 13), none)), (none, (.mov (.tmp 14), .some 5))] []) (.seq (.seq
  (.reg [(none, (.fadr 2 (.tmp 4), .some 15)), (none, (.fadr 0 (.tmp 15), .some 16)), (none, (.load none (.tmp 16), .some 17)), (none, (.bin .neq (.tmp 17) (.const (.int .i64 0)), .some 18))] []) (.cond (.tmp 18) (.seq
  (.reg [(none, (.load (.some 4) (.tmp 4), .some 19)), (none, (.build [.slice none 0 0, .int .i64 0, .int .i64 0] [], .some 20)), (none, (.store 4 (.tmp 2) (.tmp 19), none)), (none, (.store 3 (.tmp 3) (.tmp 20), none))] []) .ret) .skip)) (.seq (.seq
  (.reg [(none, (.mov (.tmp 5), .some 21)), (none, (.bin .rem (.tmp 21) (.const (.int .u64 2)), .some 22)), (none, (.bin .eql (.tmp 22) (.const (.int .u64 0)), .some 23))] []) (.cond (.tmp 23) (.seq (.seq
  (.reg [(none, (.mov (.tmp 5), .some 24)), (none, (.bin .quo (.tmp 24) (.const (.int .u64 2)), .some 25)), (none, (.bin .add (.tmp 25) (.const (.int .u64 1)), .some 26)), (none, (.bin .gtr (.tmp 26) (.const (.int .u64 1048576)), .some 27))] []) (.cond (.tmp 27) (.seq
  (.reg [(none, (.load (.some 4) (.tmp 4), .some 28)), (none, (.fadr 1 (.tmp 1), .some 29)), (none, (.load none (.tmp 29), .some 30)), (none, (.call (.func 97) [.tmp 28, .const (.int .i64 2), .tmp 30], .some 31)), (none, (.build [.slice none 0 0, .int .i64 0, .int .i64 0] [], .some 32)), (none, (.store 4 (.tmp 2) (.tmp 31), none)), (none, (.store 3 (.tmp 3) (.tmp 32), none))] []) .ret) .skip)) (.seq
  (.reg [(none, (.load (.some 4) (.tmp 4), .some 34)), (none, (.mov (.tmp 5), .some 35)), (none, (.bin .quo (.tmp 35) (.const (.int .u64 2)), .some 36)), (none, (.cvt .i64 (.tmp 36), .some 37)), (none, (.bin .add (.tmp 37) (.const (.int .i64 1)), .some 38)), (none, (.call (.func 98) [.tmp 34, .tmp 38], .some 39)), (none, (.mov (.tmp 39), .some 33)), (none, (.ext (.tmp 33) 0, .some 40)), (none, (.ext (.tmp 33) 1, .some 41)), (none, (.new [.slice none 0 0, .int .i64 0, .int .i64 0, .int .i64 0], .some 6)), (none, (.store 4 (.tmp 6) (.tmp 40), none)), (none, (.mov (.tmp 41), .some 7))] []) (.seq (.seq
  (.reg [(none, (.fadr 2 (.tmp 6), .some 42)), (none, (.fadr 0 (.tmp 42), .some 43)), (none, (.load none (.tmp 43), .some 44)), (none, (.bin .neq (.tmp 44) (.const (.int .i64 0)), .some 45))] []) (.cond (.tmp 45) (.seq
  (.reg [(none, (.load (.some 4) (.tmp 6), .some 46)), (none, (.build [.slice none 0 0, .int .i64 0, .int .i64 0] [], .some 47)), (none, (.store 4 (.tmp 2) (.tmp 46), none)), (none, (.store 3 (.tmp 3) (.tmp 47), none))] []) .ret) .skip)) (.seq
  (.reg [(none, (.load (.some 4) (.tmp 6), .some 48)), (none, (.mov (.tmp 7), .some 49)), (none, (.build [.slice none 0 0, .int .i64 0, .int .i64 0] [(0, (1, .tmp 49))], .some 50)), (none, (.store 4 (.tmp 2) (.tmp 48), none)), (none, (.store 3 (.tmp 3) (.tmp 50), none))] []) .ret)))) .skip)) (.seq (.seq
  (.reg [(none, (.mov (.tmp 5), .some 51)), (none, (.bin .quo (.tmp 51) (.const (.int .u64 2)), .some 52)), (none, (.bin .gtr (.tmp 52) (.const (.int .u64 1048572)), .some 53))] []) (.cond (.tmp 53) (.seq
  (.reg [(none, (.load (.some 4) (.tmp 4), .some 54)), (none, (.fadr 1 (.tmp 1), .some 55)), (none, (.load none (.tmp 55), .some 56)), (none, (.call (.func 97) [.tmp 54, .const (.int .i64 2), .tmp 56], .some 57)), (none, (.build [.slice none 0 0, .int .i64 0, .int .i64 0] [], .some 58)), (none, (.store 4 (.tmp 2) (.tmp 57), none)), (none, (.store 3 (.tmp 3) (.tmp 58), none))] []) .ret) .skip)) (.seq
  (.reg [(none, (.load (.some 4) (.tmp 4), .some 60)), (none, (.call (.func 95) [.tmp 60], .some 61)), (none, (.mov (.tmp 61), .some 59)), (none, (.ext (.tmp 59) 0, .some 62)), (none, (.ext (.tmp 59) 1, .some 63)), (none, (.new [.slice none 0 0, .int .i64 0, .int .i64 0, .int .i64 0], .some 8)), (none, (.store 4 (.tmp 8) (.tmp 62), none)), (none, (.mov (.tmp 63), .some 9))] []) (.seq (.seq
  (.reg [(none, (.fadr 2 (.tmp 8), .some 64)), (none, (.fadr 0 (.tmp 64), .some 65)), (none, (.load none (.tmp 65), .some 66)), (none, (.bin .neq (.tmp 66) (.const (.int .i64 0)), .some 67))] []) (.cond (.tmp 67) (.seq
  (.reg [(none, (.load (.some 4) (.tmp 8), .some 68)), (none, (.build [.slice none 0 0, .int .i64 0, .int .i64 0] [], .some 69)), (none, (.store 4 (.tmp 2) (.tmp 68), none)), (none, (.store 3 (.tmp 3) (.tmp 69), none))] []) .ret) .skip)) (.seq (.seq
  (.reg [(none, (.mov (.tmp 9), .some 70)), (none, (.bin .gtr (.tmp 70) (.const (.int .u64 65535)), .some 71))] []) (.cond (.tmp 71) (.seq
  (.reg [(none, (.load (.some 4) (.tmp 8), .some 72)), (none, (.fadr 1 (.tmp 4), .some 73)), (none, (.load none (.tmp 73), .some 74)), (none, (.call (.func 97) [.tmp 72, .const (.int .i64 10), .tmp 74], .some 75)), (none, (.build [.slice none 0 0, .int .i64 0, .int .i64 0] [], .some 76)), (none, (.store 4 (.tmp 2) (.tmp 75), none)), (none, (.store 3 (.tmp 3) (.tmp 76), none))] []) .ret) .skip)) (.seq
  (.reg [(none, (.load (.some 4) (.tmp 8), .some 77)), (none, (.mov (.tmp 9), .some 78)), (none, (.cvt .i64 (.tmp 78), .some 79)), (none, (.bin .add (.tmp 79) (.const (.int .i64 1)), .some 80)), (none, (.mov (.tmp 5), .some 81)), (none, (.bin .quo (.tmp 81) (.const (.int .u64 2)), .some 82)), (none, (.cvt .i64 (.tmp 82), .some 83)), (none, (.bin .add (.tmp 83) (.const (.int .i64 4)), .some 84)), (none, (.build [.slice none 0 0, .int .i64 0, .int .i64 0] [(1, (1, .tmp 80)), (2, (1, .tmp 84))], .some 85)), (none, (.store 4 (.tmp 2) (.tmp 77), none)), (none, (.store 3 (.tmp 3) (.tmp 85), none))] []) .ret))))))))
theorem b55 : Try.f55.body.bind (compC Try.prog) = some c55 := by kernel_rfl
theorem r55 : compR Try.prog Try.f55 = .some [.cell 2 (.some 4), .cell 3 (.some 3)] := by kernel_rfl
theorem n55 : (Try.f55.name == "runtime.NumGoroutine") = false := by kernel_rfl
def c70 : C := .seq
  (.reg [(none, (.box (.tmp 0), .some 3)), (none, (.mov (.const (.int .i64 0)), .some 6))] []) (.seq (.block 0 (.seq
  (.reg [(none, (.load (.some 3) (.tmp 3), .some 8)), (none, (.call (.func 38) [.tmp 8], .some 9)), (none, (.un .not (.tmp 9), .some 10)), (none, (.mov (.tmp 10), .some 7))] []) (.cond (.tmp 7) (.seq
  (.reg [(none, (.mov (.const (.int .i64 3)), .some 6))] []) .ret) (.seq
  (.reg [(none, (.load (.some 3) (.tmp 3), .some 12)), (none, (.call (.func 40) [.tmp 12], .some 13)), (none, (.mov (.tmp 2), .some 14)), (none, (.mov (.tmp 1), .some 15)), (none, (.bin .sub (.tmp 14) (.tmp 15), .some 16)), (none, (.bin .gtr (.tmp 13) (.tmp 16), .some 17)), (none, (.mov (.tmp 17), .some 11))] []) (.cond (.tmp 11) (.seq
  (.reg [(none, (.mov (.const (.int .i64 11)), .some 6))] []) .ret) (.seq
  (.reg [(none, (.fadr 1 (.tmp 3), .some 19)), (none, (.load none (.tmp 19), .some 20)), (none, (.mov (.tmp 1), .some 21)), (none, (.bin .gtr (.tmp 20) (.tmp 21), .some 22)), (none, (.mov (.tmp 22), .some 18))] []) (.cond (.tmp 18) (.seq
  (.reg [(none, (.mov (.const (.int .i64 10)), .some 6))] []) .ret) .skip))))))) (.seq
  (.reg [(none, (.mov (.const (.int .i64 0)), .some 6))] []) .ret))
theorem b70 : Try.f70.body.bind (compC Try.prog) = some c70 := by kernel_rfl
theorem r70 : compR Try.prog Try.f70 = .some [.tmp 6] := by kernel_rfl
theorem n70 : (Try.f70.name == "runtime.NumGoroutine") = false := by kernel_rfl
def c74 : C := .seq
  (.reg [(none, (.box (.tmp 1), .some 3)), (none, (.mov (.const (.slice none 0 0)), .some 4))] []) (.seq
  (.reg [(none, (.mov (.const (.slice none 0 0)), .some 5))] []) (.seq
  (.reg [(none, (.mov (.tmp 5), .some 7)), (none, (.mov (.tmp 0), .some 8)), (none, (.app 1 1 (.tmp 7) (.tmp 8), .some 9)), (none, (.mov (.tmp 9), .some 5))] []) (.seq
  (.reg [(none, (.mov (.tmp 5), .some 10)), (none, (.fadr 0 (.tmp 3), .some 11)), (none, (.load none (.tmp 11), .some 12)), (none, (.app 1 1 (.tmp 10) (.tmp 12), .some 13)), (none, (.mov (.tmp 13), .some 5))] []) (.seq (.seq
  (.reg [(none, (.mov (.const (.int .i64 0)), .some 6))] []) (.block 0 (.loop (.seq (.seq
  (.reg [(none, (.mov (.tmp 6), .some 14)), (none, (.fadr 2 (.tmp 3), .some 15)), (none, (.load none (.tmp 15), .some 16)), (none, (.bin .lss (.tmp 14) (.tmp 16), .some 17))] []) (.cond (.tmp 17) .skip (.exit 0))) (.seq (.block 1
  (.reg [(none, (.mov (.tmp 5), .some 20)), (none, (.mov (.tmp 5), .some 21)), (none, (.mov (.tmp 0), .some 22)), (none, (.len .false (.tmp 22), .some 23)), (none, (.mov (.tmp 6), .some 24)), (none, (.bin .add (.tmp 23) (.tmp 24), .some 25)), (none, (.fadr 1 (.tmp 3), .some 26)), (none, (.load none (.tmp 26), .some 27)), (none, (.bin .sub (.tmp 25) (.tmp 27), .some 28)), (none, (.iadr 1 (.tmp 21) (.tmp 28), .some 29)), (none, (.load none (.tmp 29), .some 30)), (none, (.bsl 1 [.tmp 30], .some 31)), (none, (.app 1 1 (.tmp 20) (.tmp 31), .some 32)), (none, (.mov (.tmp 32), .some 5))] []))
  (.reg [(none, (.mov (.tmp 6), .some 18)), (none, (.bin .add (.tmp 18) (.const (.int .i64 1)), .some 19)), (none, (.mov (.tmp 19), .some 6))] [])))))) (.seq
  (.reg [(none, (.mov (.tmp 5), .some 33)), (none, (.mov (.tmp 33), .some 4))] []) .ret)))))
theorem b74 : Try.f74.body.bind (compC Try.prog) = some c74 := by kernel_rfl
theorem r74 : compR Try.prog Try.f74 = .some [.tmp 4] := by kernel_rfl
theorem n74 : (Try.f74.name == "runtime.NumGoroutine") = false := by kernel_rfl
def c75 : C := .seq
  (.reg [(none, (.mov (.const (.bool .false)), .some 2))] []) (.seq
  (.reg [(none, (.mov (.const (.int .i64 0)), .some 3))] []) (.seq (.seq
  (.reg [(none, (.mov (.tmp 0), .some 6)), (none, (.len .false (.tmp 6), .some 7)), (none, (.mov (.const (.int .i64 0)), .some 8))] []) (.block 0 (.loop (.seq
  (.reg [(none, (.bin .lss (.tmp 8) (.tmp 7), .some 9))] []) (.seq (.cond (.tmp 9) .skip (.exit 0)) (.seq (.block 1 (.seq
  (.reg [(none, (.iadr 3 (.tmp 6) (.tmp 8), .some 10)), (none, (.load (.some 3) (.tmp 10), .some 11)), (none, (.new [.slice none 0 0, .int .i64 0, .int .i64 0], .some 5)), (none, (.store 3 (.tmp 5) (.tmp 11), none))] []) (.seq (.seq
  (.reg [(none, (.load (.some 3) (.tmp 5), .some 12)), (none, (.mov (.tmp 3), .some 13)), (none, (.call (.func 70) [.tmp 12, .tmp 13, .const (.int .i64 1048576)], .some 14)), (none, (.bin .neq (.tmp 14) (.const (.int .i64 0)), .some 15))] []) (.cond (.tmp 15) (.seq
  (.reg [(none, (.mov (.const (.bool .false)), .some 2))] []) .ret) .skip))
  (.reg [(none, (.mov (.tmp 3), .some 16)), (none, (.load (.some 3) (.tmp 5), .some 17)), (none, (.call (.func 40) [.tmp 17], .some 18)), (none, (.bin .add (.tmp 16) (.tmp 18), .some 19)), (none, (.mov (.tmp 19), .some 3))] []))))
  (.reg [(none, (.bin .add (.tmp 8) (.const (.int .i64 1)), .some 20)), (none, (.mov (.tmp 20), .some 8))] []))))))) (.seq
  (.reg [(none, (.mov (.const (.bool .true)), .some 2))] []) .ret)))
theorem b75 : Try.f75.body.bind (compC Try.prog) = some c75 := by kernel_rfl
theorem r75 : compR Try.prog Try.f75 = .some [.tmp 2] := by kernel_rfl
theorem n75 : (Try.f75.name == "runtime.NumGoroutine") = false := by kernel_rfl
def c92 : C := .seq
  (.reg [(none, (.mov (.tmp 0), .some 6)), (none, (.call (.func 60) [.tmp 6], .some 7))] []) (.cond (.tmp 7)
  (.reg [(none, (.mov (.tmp 0), .some 8)), (none, (.mov (.tmp 1), .some 9)), (none, (.mov (.tmp 2), .some 10)), (none, (.call (.func 71) [.tmp 9, .tmp 10], .some 11)), (none, (.nilc (.tmp 8), .some 12)), (none, (.fadr 2 (.tmp 12), .some 13)), (none, (.store 2 (.tmp 13) (.tmp 11), none))] []) .skip)
theorem b92 : Try.f92.body.bind (compC Try.prog) = some c92 := by kernel_rfl
theorem r92 : compR Try.prog Try.f92 = .some [] := by kernel_rfl
theorem n92 : (Try.f92.name == "runtime.NumGoroutine") = false := by kernel_rfl
def c97 : C := .seq
  (.reg [(none, (.box (.tmp 0), .some 3)), (none, (.new [.slice none 0 0, .int .i64 0, .int .i64 0, .int .i64 0], .some 6))] []) (.seq (.seq
  (.reg [(none, (.fadr 2 (.tmp 3), .some 7)), (none, (.fadr 0 (.tmp 7), .some 8)), (none, (.load none (.tmp 8), .some 9)), (none, (.bin .eql (.tmp 9) (.const (.int .i64 0)), .some 10))] []) (.cond (.tmp 10)
  (.reg [(none, (.mov (.tmp 1), .some 11)), (none, (.mov (.tmp 2), .some 12)), (none, (.call (.func 73) [.tmp 11, .tmp 12], .some 13)), (none, (.fadr 2 (.tmp 3), .some 14)), (none, (.store 2 (.tmp 14) (.tmp 13), none))] []) .skip)) (.seq
  (.reg [(none, (.load (.some 4) (.tmp 3), .some 15)), (none, (.store 4 (.tmp 6) (.tmp 15), none))] []) .ret))
theorem b97 : Try.f97.body.bind (compC Try.prog) = some c97 := by kernel_rfl
theorem r97 : compR Try.prog Try.f97 = .some [.cell 6 (.some 4)] := by kernel_rfl
theorem n97 : (Try.f97.name == "runtime.NumGoroutine") = false := by kernel_rfl
def c98 : C := .seq
  (.reg [(none, (.box (.tmp 0), .some 2)), (none, (.new [.slice none 0 0, .int .i64 0, .int .i64 0, .int .i64 0], .some 4)), (none, (.mov (.const (.slice none 0 0)), .some 5))] []) (.seq (.seq
  (.reg [(none, (.fadr 2 (.tmp 2), .some 7)), (none, (.fadr 0 (.tmp 7), .some 8)), (none, (.load none (.tmp 8), .some 9)), (none, (.bin .neq (.tmp 9) (.const (.int .i64 0)), .some 10))] []) (.cond (.tmp 10) (.seq
  (.reg [(none, (.load (.some 4) (.tmp 2), .some 11)), (none, (.store 4 (.tmp 4) (.tmp 11), none)), (none, (.mov (.const (.slice none 0 0)), .some 5))] []) .ret) .skip)) (.seq (.seq
  (.reg [(none, (.mov (.tmp 1), .some 12)), (none, (.bin .lss (.tmp 12) (.const (.int .i64 0)), .some 13))] []) (.cond (.tmp 13) (.seq
  (.reg [(none, (.load (.some 4) (.tmp 2), .some 14)), (none, (.fadr 1 (.tmp 2), .some 15)), (none, (.load none (.tmp 15), .some 16)), (none, (.call (.func 97) [.tmp 14, .const (.int .i64 17), .tmp 16], .some 17)), (none, (.store 4 (.tmp 4) (.tmp 17), none)), (none, (.mov (.const (.slice none 0 0)), .some 5))] []) .ret) .skip)) (.seq (.seq
  (.reg [(none, (.mov (.tmp 1), .some 18)), (none, (.fadr 0 (.tmp 2), .some 19)), (none, (.load none (.tmp 19), .some 20)), (none, (.len .false (.tmp 20), .some 21)), (none, (.fadr 1 (.tmp 2), .some 22)), (none, (.load none (.tmp 22), .some 23)), (none, (.bin .sub (.tmp 21) (.tmp 23), .some 24)), (none, (.bin .gtr (.tmp 18) (.tmp 24), .some 25))] []) (.cond (.tmp 25) (.seq
  (.reg [(none, (.load (.some 4) (.tmp 2), .some 26)), (none, (.fadr 0 (.tmp 2), .some 27)), (none, (.load none (.tmp 27), .some 28)), (none, (.len .false (.tmp 28), .some 29)), (none, (.call (.func 97) [.tmp 26, .const (.int .i64 1), .tmp 29], .some 30)), (none, (.store 4 (.tmp 4) (.tmp 30), none)), (none, (.mov (.const (.slice none 0 0)), .some 5))] []) .ret) .skip)) (.seq
  (.reg [(none, (.mov (.const (.slice none 0 0)), .some 6))] []) (.seq
  (.reg [(none, (.mov (.tmp 6), .some 31)), (none, (.fadr 0 (.tmp 2), .some 32)), (none, (.load none (.tmp 32), .some 33)), (none, (.fadr 1 (.tmp 2), .some 34)), (none, (.load none (.tmp 34), .some 35)), (none, (.fadr 1 (.tmp 2), .some 36)), (none, (.load none (.tmp 36), .some 37)), (none, (.mov (.tmp 1), .some 38)), (none, (.bin .add (.tmp 37) (.tmp 38), .some 39)), (none, (.slice 1 (.tmp 33) (.some (.tmp 35)) (.some (.tmp 39)) none, .some 40)), (none, (.app 1 1 (.tmp 31) (.tmp 40), .some 41)), (none, (.mov (.tmp 41), .some 6))] []) (.seq
  (.reg [(none, (.fadr 1 (.tmp 2), .some 42)), (none, (.load none (.tmp 42), .some 43)), (none, (.mov (.tmp 1), .some 44)), (none, (.bin .add (.tmp 43) (.tmp 44), .some 45)), (none, (.fadr 1 (.tmp 2), .some 46)), (none, (.store 1 (.tmp 46) (.tmp 45), none))] []) (.seq
  (.reg [(none, (.load (.some 4) (.tmp 2), .some 47)), (none, (.mov (.tmp 6), .some 48)), (none, (.store 4 (.tmp 4) (.tmp 47), none)), (none, (.mov (.tmp 48), .some 5))] []) .ret)))))))
theorem b98 : Try.f98.body.bind (compC Try.prog) = some c98 := by kernel_rfl
theorem r98 : compR Try.prog Try.f98 = .some [.cell 4 (.some 4), .tmp 5] := by kernel_rfl
theorem n98 : (Try.f98.name == "runtime.NumGoroutine") = false := by kernel_rfl
def c116 : C := .seq
  (.reg [(none, (.mov (.const (.int .u64 0)), .some 2)), (none, (.mov (.const (.int .i64 0)), .some 3)), (none, (.new [.int .i64 0, .int .i64 0], .some 4))] []) (.seq (.seq
  (.reg [(none, (.mov (.const (.int .i64 0)), .some 5))] []) (.block 0 (.loop (.seq (.seq
  (.reg [(none, (.mov (.tmp 5), .some 8)), (none, (.mov (.tmp 0), .some 9)), (none, (.len .false (.tmp 9), .some 10)), (none, (.bin .lss (.tmp 8) (.tmp 10), .some 11))] []) (.cond (.tmp 11) .skip (.exit 0))) (.seq (.block 1 (.seq (.seq
  (.reg [(none, (.mov (.tmp 5), .some 14)), (none, (.bin .eql (.tmp 14) (.const (.int .i64 9)), .some 15)), (none, (.mov (.tmp 15), .some 16)), (.some (16, .true), (.mov (.tmp 0), .some 17)), (.some (16, .true), (.mov (.tmp 5), .some 18)), (.some (16, .true), (.iadr 1 (.tmp 17) (.tmp 18), .some 19)), (.some (16, .true), (.load none (.tmp 19), .some 20)), (.some (16, .true), (.bin .gtr (.tmp 20) (.const (.int .u8 1)), .some 21)), (none, (.pick (.tmp 16) (.tmp 21) (.const (.bool .false)), .some 22))] []) (.cond (.tmp 22) (.seq
  (.reg [(none, (.mov (.tmp 5), .some 23)), (none, (.call (.func 73) [.const (.int .i64 5), .tmp 23], .some 24)), (none, (.mov (.const (.int .u64 0)), .some 2)), (none, (.mov (.const (.int .i64 0)), .some 3)), (none, (.store 2 (.tmp 4) (.tmp 24), none))] []) .ret) .skip)) (.seq (.seq
  (.reg [(none, (.mov (.tmp 5), .some 25)), (none, (.bin .gtr (.tmp 25) (.const (.int .i64 0)), .some 26)), (none, (.mov (.tmp 26), .some 27)), (.some (27, .true), (.mov (.tmp 0), .some 28)), (.some (27, .true), (.mov (.tmp 5), .some 29)), (.some (27, .true), (.iadr 1 (.tmp 28) (.tmp 29), .some 30)), (.some (27, .true), (.load none (.tmp 30), .some 31)), (.some (27, .true), (.bin .eql (.tmp 31) (.const (.int .u8 0)), .some 32)), (none, (.pick (.tmp 27) (.tmp 32) (.const (.bool .false)), .some 33))] []) (.cond (.tmp 33) (.seq
  (.reg [(none, (.mov (.tmp 5), .some 34)), (none, (.call (.func 73) [.const (.int .i64 4), .tmp 34], .some 35)), (none, (.mov (.const (.int .u64 0)), .some 2)), (none, (.mov (.const (.int .i64 0)), .some 3)), (none, (.store 2 (.tmp 4) (.tmp 35), none))] []) .ret) .skip)) (.seq
  (.reg [(none, (.mov (.tmp 0), .some 36)), (none, (.mov (.tmp 5), .some 37)), (none, (.iadr 1 (.tmp 36) (.tmp 37), .some 38)), (none, (.load none (.tmp 38), .some 39)), (none, (.bin .lss (.tmp 39) (.const (.int .u8 128)), .some 40))] []) (.cond (.tmp 40) (.seq
  (.reg [(none, (.mov (.const (.int .u64 0)), .some 6))] []) (.seq (.seq
  (.reg [(none, (.mov (.tmp 5), .some 41)), (none, (.mov (.tmp 41), .some 7))] []) (.block 2 (.loop (.seq (.seq
  (.reg [(none, (.mov (.tmp 7), .some 42)), (none, (.bin .geq (.tmp 42) (.const (.int .i64 0)), .some 43))] []) (.cond (.tmp 43) .skip (.exit 2))) (.seq (.block 3
  (.reg [(none, (.mov (.tmp 6), .some 46)), (none, (.bin .mul (.const (.int .u64 128)) (.tmp 46), .some 47)), (none, (.mov (.tmp 0), .some 48)), (none, (.mov (.tmp 7), .some 49)), (none, (.iadr 1 (.tmp 48) (.tmp 49), .some 50)), (none, (.load none (.tmp 50), .some 51)), (none, (.bin .rem (.tmp 51) (.const (.int .u8 128)), .some 52)), (none, (.cvt .u64 (.tmp 52), .some 53)), (none, (.bin .add (.tmp 47) (.tmp 53), .some 54)), (none, (.mov (.tmp 54), .some 6))] []))
  (.reg [(none, (.mov (.tmp 7), .some 44)), (none, (.bin .sub (.tmp 44) (.const (.int .i64 1)), .some 45)), (none, (.mov (.tmp 45), .some 7))] [])))))) (.seq
  (.reg [(none, (.mov (.tmp 6), .some 55)), (none, (.mov (.tmp 5), .some 56)), (none, (.bin .add (.tmp 56) (.const (.int .i64 1)), .some 57)), (none, (.build [.int .i64 0, .int .i64 0] [], .some 58)), (none, (.mov (.tmp 55), .some 2)), (none, (.mov (.tmp 57), .some 3)), (none, (.store 2 (.tmp 4) (.tmp 58), none))] []) .ret))) .skip)))))
  (.reg [(none, (.mov (.tmp 5), .some 12)), (none, (.bin .add (.tmp 12) (.const (.int .i64 1)), .some 13)), (none, (.mov (.tmp 13), .some 5))] [])))))) (.seq
  (.reg [(none, (.mov (.tmp 0), .some 59)), (none, (.len .false (.tmp 59), .some 60)), (none, (.call (.func 73) [.const (.int .i64 1), .tmp 60], .some 61)), (none, (.mov (.const (.int .u64 0)), .some 2)), (none, (.mov (.const (.int .i64 0)), .some 3)), (none, (.store 2 (.tmp 4) (.tmp 61), none))] []) .ret))
theorem b116 : Try.f116.body.bind (compC Try.prog) = some c116 := by kernel_rfl
theorem r116 : compR Try.prog Try.f116 = .some [.tmp 2, .tmp 3, .cell 4 (.some 2)] := by kernel_rfl
theorem n116 : (Try.f116.name == "runtime.NumGoroutine") = false := by kernel_rfl
end Go.Proofs.Ytpjkmidjjodplaa
