/-
  The codes of the seat's functions over abstract values, each shown to be its function's own (by program: wip/tools/codes.py).
-/
import Derived.Test.YtpjkmidjjodplaaA2
import Derived.Test.YtpjkmidjjodplaaProg
import Derived.KernelRfl
namespace Go.Proofs.Ytpjkmidjjodplaa
def c16 : C := .seq
  (.reg [(none, (.mov (.const (.bool .false)), .some 4))] []) (.seq (.seq
  (.reg [(none, (.mov (.tmp 0), .some 12)), (none, (.len .false (.tmp 12), .some 13)), (none, (.bin .gtr (.tmp 13) (.const (.int .i64 10)), .some 14)), (none, (.mov (.tmp 14), .some 15)), (.some (15, .false), (.mov (.tmp 1), .some 16)), (.some (15, .false), (.len .false (.tmp 16), .some 17)), (.some (15, .false), (.mov (.tmp 0), .some 18)), (.some (15, .false), (.len .false (.tmp 18), .some 19)), (.some (15, .false), (.bin .neq (.tmp 17) (.tmp 19), .some 20)), (none, (.pick (.tmp 15) (.const (.bool .true)) (.tmp 20), .some 21))] []) (.cond (.tmp 21) (.seq
  (.reg [(none, (.call (.func 27) [], .some 22)), (none, (.mov (.tmp 22), .some 4))] []) .ret) .skip)) (.seq
  (.reg [(none, (.mov (.const (.slice none 0 0)), .some 5))] []) (.seq
  (.reg [(none, (.mov (.const (.slice none 0 0)), .some 6))] []) (.seq (.seq
  (.reg [(none, (.mov (.const (.int .i64 0)), .some 7))] []) (.block 0 (.loop (.seq (.seq
  (.reg [(none, (.mov (.tmp 7), .some 23)), (none, (.mov (.tmp 0), .some 24)), (none, (.len .false (.tmp 24), .some 25)), (none, (.bin .lss (.tmp 23) (.tmp 25), .some 26))] []) (.cond (.tmp 26) .skip (.exit 0))) (.seq (.block 1 (.seq (.seq
  (.reg [(none, (.mov (.tmp 0), .some 29)), (none, (.mov (.tmp 7), .some 30)), (none, (.iadr 1 (.tmp 29) (.tmp 30), .some 31)), (none, (.load none (.tmp 31), .some 32)), (none, (.len .false (.tmp 32), .some 33)), (none, (.bin .gtr (.tmp 33) (.const (.int .i64 60)), .some 34)), (none, (.mov (.tmp 34), .some 35)), (.some (35, .false), (.mov (.tmp 1), .some 36)), (.some (35, .false), (.mov (.tmp 7), .some 37)), (.some (35, .false), (.iadr 1 (.tmp 36) (.tmp 37), .some 38)), (.some (35, .false), (.load none (.tmp 38), .some 39)), (.some (35, .false), (.len .false (.tmp 39), .some 40)), (.some (35, .false), (.bin .gtr (.tmp 40) (.const (.int .i64 30)), .some 41)), (none, (.pick (.tmp 35) (.const (.bool .true)) (.tmp 41), .some 42))] []) (.cond (.tmp 42) (.seq
  (.reg [(none, (.call (.func 27) [], .some 43)), (none, (.mov (.tmp 43), .some 4))] []) .ret) .skip)) (.seq
  (.reg [(none, (.mov (.tmp 5), .some 44)), (none, (.mov (.tmp 1), .some 45)), (none, (.mov (.tmp 7), .some 46)), (none, (.iadr 1 (.tmp 45) (.tmp 46), .some 47)), (none, (.load none (.tmp 47), .some 48)), (none, (.app 1 1 (.tmp 44) (.tmp 48), .some 49)), (none, (.mov (.tmp 49), .some 5))] []) (.seq
  (.reg [(none, (.mov (.tmp 6), .some 50)), (none, (.mov (.tmp 5), .some 51)), (none, (.len .false (.tmp 51), .some 52)), (none, (.bsl 1 [.tmp 52], .some 53)), (none, (.app 1 8 (.tmp 50) (.tmp 53), .some 54)), (none, (.mov (.tmp 54), .some 6))] [])
  (.reg [(none, (.mov (.tmp 5), .some 55)), (none, (.mov (.tmp 0), .some 56)), (none, (.mov (.tmp 7), .some 57)), (none, (.iadr 1 (.tmp 56) (.tmp 57), .some 58)), (none, (.load none (.tmp 58), .some 59)), (none, (.call (.func 34) [.tmp 59], .some 60)), (none, (.app 1 1 (.tmp 55) (.tmp 60), .some 61)), (none, (.mov (.tmp 61), .some 5))] [])))))
  (.reg [(none, (.mov (.tmp 7), .some 27)), (none, (.bin .add (.tmp 27) (.const (.int .i64 1)), .some 28)), (none, (.mov (.tmp 28), .some 7))] [])))))) (.seq
  (.reg [(none, (.mov (.const (.int .i64 0)), .some 8))] []) (.seq (.seq
  (.reg [(none, (.mov (.const (.int .i64 0)), .some 9))] []) (.block 2 (.loop (.seq (.seq
  (.reg [(none, (.mov (.tmp 9), .some 62)), (none, (.mov (.tmp 0), .some 63)), (none, (.len .false (.tmp 63), .some 64)), (none, (.bin .lss (.tmp 62) (.tmp 64), .some 65))] []) (.cond (.tmp 65) .skip (.exit 2))) (.seq (.block 3 (.seq (.seq
  (.reg [(none, (.mov (.tmp 5), .some 68)), (none, (.mov (.tmp 8), .some 69)), (none, (.call (.func 68) [.tmp 68, .tmp 69, .const (.int .i64 60)], .some 70)), (none, (.mov (.tmp 6), .some 71)), (none, (.mov (.tmp 9), .some 72)), (none, (.iadr 1 (.tmp 71) (.tmp 72), .some 73)), (none, (.load none (.tmp 73), .some 74)), (none, (.bin .neq (.tmp 70) (.tmp 74), .some 75))] [(2, 6)]) (.cond (.tmp 75) (.seq
  (.reg [(none, (.call (.func 27) [], .some 76)), (none, (.mov (.tmp 76), .some 4))] []) .ret) .skip))
  (.reg [(none, (.mov (.tmp 6), .some 77)), (none, (.mov (.tmp 9), .some 78)), (none, (.iadr 1 (.tmp 77) (.tmp 78), .some 79)), (none, (.load none (.tmp 79), .some 80)), (none, (.mov (.tmp 0), .some 81)), (none, (.mov (.tmp 9), .some 82)), (none, (.iadr 1 (.tmp 81) (.tmp 82), .some 83)), (none, (.load none (.tmp 83), .some 84)), (none, (.call (.func 34) [.tmp 84], .some 85)), (none, (.len .false (.tmp 85), .some 86)), (none, (.bin .add (.tmp 80) (.tmp 86), .some 87)), (none, (.mov (.tmp 87), .some 8))] [(3, 7), (3, 8)])))
  (.reg [(none, (.mov (.tmp 9), .some 66)), (none, (.bin .add (.tmp 66) (.const (.int .i64 1)), .some 67)), (none, (.mov (.tmp 67), .some 9))] [])))))) (.seq
  (.reg [(none, (.mov (.tmp 5), .some 88)), (none, (.call (.func 69) [.tmp 88, .const (.int .i64 60)], .some 89)), (none, (.mov (.tmp 89), .some 10))] []) (.seq (.seq
  (.reg [(none, (.mov (.tmp 10), .some 90)), (none, (.len .false (.tmp 90), .some 91)), (none, (.mov (.tmp 0), .some 92)), (none, (.len .false (.tmp 92), .some 93)), (none, (.bin .neq (.tmp 91) (.tmp 93), .some 94))] []) (.cond (.tmp 94) (.seq
  (.reg [(none, (.mov (.const (.bool .false)), .some 4))] []) .ret) .skip)) (.seq (.seq
  (.reg [(none, (.mov (.const (.int .i64 0)), .some 11))] []) (.block 4 (.loop (.seq (.seq
  (.reg [(none, (.mov (.tmp 11), .some 95)), (none, (.mov (.tmp 0), .some 96)), (none, (.len .false (.tmp 96), .some 97)), (none, (.bin .lss (.tmp 95) (.tmp 97), .some 98))] []) (.cond (.tmp 98) .skip (.exit 4))) (.seq (.block 5 (.seq
  (.reg [(none, (.mov (.tmp 10), .some 101)), (none, (.mov (.tmp 11), .some 102)), (none, (.iadr 1 (.tmp 101) (.tmp 102), .some 103)), (none, (.load none (.tmp 103), .some 104)), (none, (.mov (.tmp 6), .some 105)), (none, (.mov (.tmp 11), .some 106)), (none, (.iadr 1 (.tmp 105) (.tmp 106), .some 107)), (none, (.load none (.tmp 107), .some 108)), (none, (.bin .neq (.tmp 104) (.tmp 108), .some 109))] [(3, 7)]) (.cond (.tmp 109) (.seq
  (.reg [(none, (.mov (.const (.bool .false)), .some 4))] []) .ret) .skip)))
  (.reg [(none, (.mov (.tmp 11), .some 99)), (none, (.bin .add (.tmp 99) (.const (.int .i64 1)), .some 100)), (none, (.mov (.tmp 100), .some 11))] [])))))) (.seq
  (.reg [(none, (.call (.func 27) [], .some 110)), (none, (.mov (.tmp 110), .some 4))] []) .ret))))))))))
theorem b16 : Try.f16.body.bind (compC Try.prog) = some c16 := by kernel_rfl
theorem r16 : compR Try.prog Try.f16 = .some [.tmp 4] := by kernel_rfl
theorem n16 : (Try.f16.name == "runtime.NumGoroutine") = false := by kernel_rfl
def c28 : C := .seq
  (.reg [(none, (.mov (.const (.slice none 0 0)), .some 2)), (none, (.mov (.const (.int .i64 0)), .some 3))] []) (.seq
  (.reg [(none, (.mov (.tmp 0), .some 5)), (none, (.len .false (.tmp 5), .some 6)), (none, (.call (.func 35) [.tmp 6], .some 7)), (none, (.call (.func 29) [.tmp 7], .some 8)), (none, (.mov (.tmp 8), .some 4))] []) (.seq
  (.reg [(none, (.mov (.tmp 4), .some 9)), (none, (.mov (.tmp 0), .some 10)), (none, (.call (.func 31) [.tmp 9, .tmp 10], .some 11))] []) (.seq
  (.reg [(none, (.mov (.tmp 4), .some 12)), (none, (.call (.func 32) [.tmp 12], .some 13)), (none, (.ext (.tmp 13) 0, .some 14)), (none, (.ext (.tmp 13) 1, .some 15)), (none, (.mov (.tmp 14), .some 2)), (none, (.mov (.tmp 15), .some 3))] []) .ret)))
theorem b28 : Try.f28.body.bind (compC Try.prog) = some c28 := by kernel_rfl
theorem r28 : compR Try.prog Try.f28 = .some [.tmp 2, .tmp 3] := by kernel_rfl
theorem n28 : (Try.f28.name == "runtime.NumGoroutine") = false := by kernel_rfl
def c30 : C := .block 0 (.seq
  (.reg [(none, (.mov (.tmp 0), .some 14)), (none, (.call (.func 76) [.tmp 14], .some 15)), (none, (.bin .neq (.tmp 15) (.const (.int .i64 0)), .some 16)), (none, (.mov (.tmp 16), .some 13))] []) (.cond (.tmp 13) .skip (.seq
  (.reg [(none, (.mov (.tmp 1), .some 18)), (none, (.len .false (.tmp 18), .some 19)), (none, (.mov (.tmp 0), .some 20)), (none, (.call (.func 77) [.tmp 20], .some 21)), (none, (.bin .gtr (.tmp 19) (.tmp 21), .some 22)), (none, (.mov (.tmp 22), .some 17))] []) (.cond (.tmp 17)
  (.reg [(none, (.mov (.tmp 0), .some 23)), (none, (.call (.func 78) [.tmp 23, .const (.int .i64 2)], .some 24))] [])
  (.reg [(none, (.mov (.tmp 0), .some 4)), (none, (.mov (.tmp 0), .some 5)), (none, (.nilc (.tmp 5), .some 6)), (none, (.fadr 1 (.tmp 6), .some 7)), (none, (.load none (.tmp 7), .some 8)), (none, (.mov (.tmp 1), .some 9)), (none, (.app 1 1 (.tmp 8) (.tmp 9), .some 10)), (none, (.nilc (.tmp 4), .some 11)), (none, (.fadr 1 (.tmp 11), .some 12)), (none, (.store 1 (.tmp 12) (.tmp 10), none))] [])))))
theorem b30 : Try.f30.body.bind (compC Try.prog) = some c30 := by kernel_rfl
theorem r30 : compR Try.prog Try.f30 = .some [] := by kernel_rfl
theorem n30 : (Try.f30.name == "runtime.NumGoroutine") = false := by kernel_rfl
def c56 : C := .seq
  (.reg [(none, (.new [.int .i64 0, .int .i64 0], .some 2))] []) (.seq (.seq
  (.reg [(none, (.mov (.tmp 0), .some 3)), (none, (.eqp .false (.tmp 3) (.const (.pointer none)), .some 4))] []) (.cond (.tmp 4) (.seq
  (.reg [(none, (.call (.func 71) [.const (.int .i64 19), .const (.int .i64 0)], .some 5)), (none, (.store 2 (.tmp 2) (.tmp 5), none))] []) .ret) .skip)) (.seq
  (.reg [(none, (.mov (.tmp 0), .some 6)), (none, (.nilc (.tmp 6), .some 7)), (none, (.fadr 2 (.tmp 7), .some 8)), (none, (.load (.some 2) (.tmp 8), .some 9)), (none, (.store 2 (.tmp 2) (.tmp 9), none))] []) .ret))
theorem b56 : Try.f56.body.bind (compC Try.prog) = some c56 := by kernel_rfl
theorem r56 : compR Try.prog Try.f56 = .some [.cell 2 (.some 2)] := by kernel_rfl
theorem n56 : (Try.f56.name == "runtime.NumGoroutine") = false := by kernel_rfl
def c57 : C := .seq
  (.reg [(none, (.mov (.const (.int .i64 0)), .some 2))] []) (.seq (.seq
  (.reg [(none, (.mov (.tmp 0), .some 3)), (none, (.eqp .false (.tmp 3) (.const (.pointer none)), .some 4))] []) (.cond (.tmp 4) (.seq
  (.reg [(none, (.mov (.const (.int .i64 0)), .some 2))] []) .ret) .skip)) (.seq
  (.reg [(none, (.mov (.tmp 0), .some 5)), (none, (.nilc (.tmp 5), .some 6)), (none, (.fadr 1 (.tmp 6), .some 7)), (none, (.load none (.tmp 7), .some 8)), (none, (.mov (.tmp 8), .some 2))] []) .ret))
theorem b57 : Try.f57.body.bind (compC Try.prog) = some c57 := by kernel_rfl
theorem r57 : compR Try.prog Try.f57 = .some [.tmp 2] := by kernel_rfl
theorem n57 : (Try.f57.name == "runtime.NumGoroutine") = false := by kernel_rfl
def c66 : C := .seq
  (.reg [(none, (.mov (.const (.int .i64 0)), .some 4))] []) (.seq (.seq
  (.reg [(none, (.mov (.tmp 1), .some 7)), (none, (.bin .gtr (.tmp 7) (.const (.int .i64 2097152)), .some 8))] []) (.cond (.tmp 8)
  (.reg [(none, (.mov (.const (.int .i64 2097152)), .some 1))] []) .skip)) (.seq
  (.reg [(none, (.mov (.tmp 0), .some 10)), (none, (.build [.slice none 0 0, .int .i64 0, .int .i64 0, .int .i64 0] [(0, (1, .tmp 10))], .some 11)), (none, (.mov (.tmp 1), .some 12)), (none, (.call (.func 107) [.tmp 11, .tmp 12], .some 13)), (none, (.mov (.tmp 13), .some 9)), (none, (.ext (.tmp 9) 0, .some 14)), (none, (.ext (.tmp 9) 1, .some 15)), (none, (.new [.slice none 0 0, .int .i64 0, .int .i64 0, .int .i64 0], .some 5)), (none, (.store 4 (.tmp 5) (.tmp 14), none)), (none, (.mov (.tmp 15), .some 6))] []) (.seq (.seq
  (.reg [(none, (.fadr 2 (.tmp 5), .some 16)), (none, (.fadr 0 (.tmp 16), .some 17)), (none, (.load none (.tmp 17), .some 18)), (none, (.bin .neq (.tmp 18) (.const (.int .i64 0)), .some 19))] []) (.cond (.tmp 19) (.seq
  (.reg [(none, (.mov (.const (.int .i64 0)), .some 4))] []) .ret) .skip)) (.seq
  (.reg [(none, (.mov (.tmp 6), .some 20)), (none, (.cvt .u64 (.tmp 20), .some 21)), (none, (.call (.func 33) [.tmp 21], .some 22)), (none, (.len .false (.tmp 22), .some 23)), (none, (.mov (.tmp 6), .some 24)), (none, (.bin .add (.tmp 23) (.tmp 24), .some 25)), (none, (.bin .add (.tmp 25) (.const (.int .i64 4)), .some 26)), (none, (.mov (.tmp 26), .some 4))] []) .ret))))
theorem b66 : Try.f66.body.bind (compC Try.prog) = some c66 := by kernel_rfl
theorem r66 : compR Try.prog Try.f66 = .some [.tmp 4] := by kernel_rfl
theorem n66 : (Try.f66.name == "runtime.NumGoroutine") = false := by kernel_rfl
def c68 : C := .seq
  (.reg [(none, (.mov (.const (.int .i64 0)), .some 6))] []) (.seq (.seq
  (.reg [(none, (.mov (.tmp 1), .some 10)), (none, (.mx .true (.tmp 10) (.const (.int .i64 0)), .some 11)), (none, (.mov (.tmp 11), .some 7))] []) (.block 0 (.loop (.seq (.seq
  (.reg [(none, (.mov (.tmp 7), .some 12)), (none, (.mov (.tmp 0), .some 13)), (none, (.len .false (.tmp 13), .some 14)), (none, (.bin .lss (.tmp 12) (.tmp 14), .some 15))] []) (.cond (.tmp 15) .skip (.exit 0))) (.seq (.block 1 (.seq
  (.reg [(none, (.mov (.tmp 0), .some 19)), (none, (.mov (.tmp 7), .some 20)), (none, (.slice 1 (.tmp 19) (.some (.tmp 20)) none none, .some 21)), (none, (.build [.slice none 0 0, .int .i64 0, .int .i64 0, .int .i64 0] [(0, (1, .tmp 21))], .some 22)), (none, (.mov (.tmp 2), .some 23)), (none, (.call (.func 64) [.tmp 22, .tmp 23], .some 24)), (none, (.mov (.tmp 24), .some 18)), (none, (.ext (.tmp 18) 0, .some 25)), (none, (.ext (.tmp 18) 1, .some 26)), (none, (.new [.slice none 0 0, .int .i64 0, .int .i64 0, .int .i64 0], .some 8)), (none, (.store 4 (.tmp 8) (.tmp 25), none)), (none, (.mov (.tmp 26), .some 9))] []) (.seq
  (.reg [(none, (.fadr 2 (.tmp 8), .some 27)), (none, (.fadr 0 (.tmp 27), .some 28)), (none, (.load none (.tmp 28), .some 29)), (none, (.bin .eql (.tmp 29) (.const (.int .i64 0)), .some 30))] []) (.cond (.tmp 30) (.seq
  (.reg [(none, (.mov (.tmp 7), .some 31)), (none, (.mov (.tmp 31), .some 6))] []) .ret) .skip))))
  (.reg [(none, (.mov (.tmp 7), .some 16)), (none, (.bin .add (.tmp 16) (.const (.int .i64 1)), .some 17)), (none, (.mov (.tmp 17), .some 7))] [])))))) (.seq
  (.reg [(none, (.mov (.const (.int .i64 (-1))), .some 6))] []) .ret))
theorem b68 : Try.f68.body.bind (compC Try.prog) = some c68 := by kernel_rfl
theorem r68 : compR Try.prog Try.f68 = .some [.tmp 6] := by kernel_rfl
theorem n68 : (Try.f68.name == "runtime.NumGoroutine") = false := by kernel_rfl
def c78 : C := .seq
  (.reg [(none, (.mov (.tmp 0), .some 4)), (none, (.call (.func 76) [.tmp 4], .some 5)), (none, (.bin .eql (.tmp 5) (.const (.int .i64 0)), .some 6))] []) (.cond (.tmp 6)
  (.reg [(none, (.mov (.tmp 0), .some 7)), (none, (.mov (.tmp 1), .some 8)), (none, (.nilc (.tmp 7), .some 9)), (none, (.fadr 2 (.tmp 9), .some 10)), (none, (.store 1 (.tmp 10) (.tmp 8), none))] []) .skip)
theorem b78 : Try.f78.body.bind (compC Try.prog) = some c78 := by kernel_rfl
theorem r78 : compR Try.prog Try.f78 = .some [] := by kernel_rfl
theorem n78 : (Try.f78.name == "runtime.NumGoroutine") = false := by kernel_rfl
def c82 : C := .seq
  (.reg [(none, (.mov (.const (.slice none 0 0)), .some 2))] []) (.seq
  (.reg [(none, (.mov (.tmp 0), .some 3)), (none, (.len .false (.tmp 3), .some 4)), (none, (.cvt .u64 (.tmp 4), .some 5)), (none, (.call (.func 33) [.tmp 5], .some 6)), (none, (.mov (.tmp 0), .some 7)), (none, (.app 1 1 (.tmp 6) (.tmp 7), .some 8)), (none, (.mov (.tmp 8), .some 2))] []) .ret)
theorem b82 : Try.f82.body.bind (compC Try.prog) = some c82 := by kernel_rfl
theorem r82 : compR Try.prog Try.f82 = .some [.tmp 2] := by kernel_rfl
theorem n82 : (Try.f82.name == "runtime.NumGoroutine") = false := by kernel_rfl
def c83 : C := .seq
  (.reg [(none, (.mov (.const (.slice none 0 0)), .some 4))] []) (.seq
  (.reg [(none, (.mov (.const (.slice none 0 0)), .some 5))] []) (.seq (.seq
  (.reg [(none, (.mov (.const (.int .i64 0)), .some 6))] []) (.block 0 (.loop (.seq (.seq
  (.reg [(none, (.mov (.tmp 6), .some 7)), (none, (.mov (.tmp 1), .some 8)), (none, (.bin .lss (.tmp 7) (.tmp 8), .some 9)), (none, (.mov (.tmp 9), .some 10)), (.some (10, .true), (.mov (.tmp 6), .some 11)), (.some (10, .true), (.bin .lss (.tmp 11) (.const (.int .i64 8)), .some 12)), (none, (.pick (.tmp 10) (.tmp 12) (.const (.bool .false)), .some 13))] []) (.cond (.tmp 13) .skip (.exit 0))) (.seq (.block 1
  (.reg [(none, (.mov (.tmp 5), .some 16)), (none, (.mov (.tmp 0), .some 17)), (none, (.mov (.tmp 6), .some 18)), (none, (.bin .mul (.const (.int .i64 8)) (.tmp 18), .some 19)), (none, (.cvt .u64 (.tmp 19), .some 20)), (none, (.bin .shr (.tmp 17) (.tmp 20), .some 21)), (none, (.cvt .u8 (.tmp 21), .some 22)), (none, (.bsl 1 [.tmp 22], .some 23)), (none, (.app 1 1 (.tmp 16) (.tmp 23), .some 24)), (none, (.mov (.tmp 24), .some 5))] []))
  (.reg [(none, (.mov (.tmp 6), .some 14)), (none, (.bin .add (.tmp 14) (.const (.int .i64 1)), .some 15)), (none, (.mov (.tmp 15), .some 6))] [])))))) (.seq
  (.reg [(none, (.mov (.tmp 5), .some 25)), (none, (.mov (.tmp 25), .some 4))] []) .ret)))
theorem b83 : Try.f83.body.bind (compC Try.prog) = some c83 := by kernel_rfl
theorem r83 : compR Try.prog Try.f83 = .some [.tmp 4] := by kernel_rfl
theorem n83 : (Try.f83.name == "runtime.NumGoroutine") = false := by kernel_rfl
def c86 : C := .reg [(none, (.mov (.tmp 0), .some 4)), (none, (.mov (.tmp 1), .some 5)), (none, (.call (.func 114) [.tmp 5], .some 6)), (none, (.call (.func 30) [.tmp 4, .tmp 6], .some 7))] []
theorem b86 : Try.f86.body.bind (compC Try.prog) = some c86 := by kernel_rfl
theorem r86 : compR Try.prog Try.f86 = .some [] := by kernel_rfl
theorem n86 : (Try.f86.name == "runtime.NumGoroutine") = false := by kernel_rfl
def c94 : C := .seq
  (.reg [(none, (.box (.tmp 0), .some 1)), (none, (.mov (.const (.bool .false)), .some 2))] []) (.seq
  (.reg [(none, (.fadr 0 (.tmp 1), .some 3)), (none, (.load none (.tmp 3), .some 4)), (none, (.bin .eql (.tmp 4) (.const (.int .i64 0)), .some 5)), (none, (.mov (.tmp 5), .some 2))] []) .ret)
theorem b94 : Try.f94.body.bind (compC Try.prog) = some c94 := by kernel_rfl
theorem r94 : compR Try.prog Try.f94 = .some [.tmp 2] := by kernel_rfl
theorem n94 : (Try.f94.name == "runtime.NumGoroutine") = false := by kernel_rfl
def c95 : C := .seq
  (.reg [(none, (.box (.tmp 0), .some 1)), (none, (.new [.slice none 0 0, .int .i64 0, .int .i64 0, .int .i64 0], .some 2)), (none, (.mov (.const (.int .u64 0)), .some 3))] []) (.seq (.seq
  (.reg [(none, (.fadr 2 (.tmp 1), .some 7)), (none, (.fadr 0 (.tmp 7), .some 8)), (none, (.load none (.tmp 8), .some 9)), (none, (.bin .neq (.tmp 9) (.const (.int .i64 0)), .some 10))] []) (.cond (.tmp 10) (.seq
  (.reg [(none, (.load (.some 4) (.tmp 1), .some 11)), (none, (.store 4 (.tmp 2) (.tmp 11), none)), (none, (.mov (.const (.int .u64 0)), .some 3))] []) .ret) .skip)) (.seq
  (.reg [(none, (.fadr 0 (.tmp 1), .some 13)), (none, (.load none (.tmp 13), .some 14)), (none, (.fadr 1 (.tmp 1), .some 15)), (none, (.load none (.tmp 15), .some 16)), (none, (.slice 1 (.tmp 14) (.some (.tmp 16)) none none, .some 17)), (none, (.call (.func 116) [.tmp 17], .some 18)), (none, (.mov (.tmp 18), .some 12)), (none, (.ext (.tmp 12) 0, .some 19)), (none, (.ext (.tmp 12) 1, .some 20)), (none, (.ext (.tmp 12) 2, .some 21)), (none, (.new [.int .i64 0, .int .i64 0], .some 6)), (none, (.mov (.tmp 19), .some 4)), (none, (.mov (.tmp 20), .some 5)), (none, (.store 2 (.tmp 6) (.tmp 21), none))] []) (.seq (.seq
  (.reg [(none, (.fadr 0 (.tmp 6), .some 22)), (none, (.load none (.tmp 22), .some 23)), (none, (.bin .eql (.tmp 23) (.const (.int .i64 0)), .some 24))] []) (.cond (.tmp 24) (.seq
  (.reg [(none, (.fadr 1 (.tmp 1), .some 25)), (none, (.load none (.tmp 25), .some 26)), (none, (.mov (.tmp 5), .some 27)), (none, (.bin .add (.tmp 26) (.tmp 27), .some 28)), (none, (.fadr 1 (.tmp 1), .some 29)), (none, (.store 1 (.tmp 29) (.tmp 28), none))] []) (.seq
  (.reg [(none, (.load (.some 4) (.tmp 1), .some 30)), (none, (.mov (.tmp 4), .some 31)), (none, (.store 4 (.tmp 2) (.tmp 30), none)), (none, (.mov (.tmp 31), .some 3))] []) .ret)) .skip)) (.seq (.seq
  (.reg [(none, (.fadr 0 (.tmp 6), .some 32)), (none, (.load none (.tmp 32), .some 33)), (none, (.bin .eql (.tmp 33) (.const (.int .i64 1)), .some 34))] []) (.cond (.tmp 34)
  (.reg [(none, (.fadr 0 (.tmp 1), .some 35)), (none, (.load none (.tmp 35), .some 36)), (none, (.len .false (.tmp 36), .some 37)), (none, (.fadr 1 (.tmp 1), .some 38)), (none, (.store 1 (.tmp 38) (.tmp 37), none))] [])
  (.reg [(none, (.fadr 1 (.tmp 1), .some 39)), (none, (.load none (.tmp 39), .some 40)), (none, (.fadr 1 (.tmp 6), .some 41)), (none, (.load none (.tmp 41), .some 42)), (none, (.bin .add (.tmp 40) (.tmp 42), .some 43)), (none, (.bin .add (.tmp 43) (.const (.int .i64 1)), .some 44)), (none, (.fadr 1 (.tmp 1), .some 45)), (none, (.store 1 (.tmp 45) (.tmp 44), none))] []))) (.seq
  (.reg [(none, (.fadr 0 (.tmp 6), .some 46)), (none, (.load none (.tmp 46), .some 47)), (none, (.fadr 1 (.tmp 1), .some 48)), (none, (.load none (.tmp 48), .some 49)), (none, (.call (.func 73) [.tmp 47, .tmp 49], .some 50)), (none, (.fadr 2 (.tmp 1), .some 51)), (none, (.store 2 (.tmp 51) (.tmp 50), none))] []) (.seq (.seq
  (.reg [(none, (.fadr 0 (.tmp 6), .some 52)), (none, (.load none (.tmp 52), .some 53)), (none, (.bin .neq (.tmp 53) (.const (.int .i64 1)), .some 54))] []) (.cond (.tmp 54)
  (.reg [(none, (.fadr 1 (.tmp 1), .some 55)), (none, (.load none (.tmp 55), .some 56)), (none, (.bin .sub (.tmp 56) (.const (.int .i64 1)), .some 57)), (none, (.fadr 2 (.tmp 1), .some 58)), (none, (.fadr 1 (.tmp 58), .some 59)), (none, (.store 1 (.tmp 59) (.tmp 57), none))] []) .skip)) (.seq
  (.reg [(none, (.load (.some 4) (.tmp 1), .some 60)), (none, (.store 4 (.tmp 2) (.tmp 60), none)), (none, (.mov (.const (.int .u64 0)), .some 3))] []) .ret)))))))
theorem b95 : Try.f95.body.bind (compC Try.prog) = some c95 := by kernel_rfl
theorem r95 : compR Try.prog Try.f95 = .some [.cell 2 (.some 4), .tmp 3] := by kernel_rfl
theorem n95 : (Try.f95.name == "runtime.NumGoroutine") = false := by kernel_rfl
def c99 : C := .seq
  (.reg [(none, (.mov (.const (.int .u64 0)), .some 2))] []) (.scope (.seq
  (.reg [(none, (.mov (.const (.int .u64 0)), .some 3))] []) (.seq
  (.reg [(none, (.mov (.const (.int .u8 0)), .some 4))] []) (.seq
  (.reg [(none, (.mov (.tmp 0), .some 7)), (none, (.call (.func 57) [.tmp 7], .some 8)), (none, (.mov (.const (.int .i64 0)), .some 5)), (none, (.mov (.tmp 8), .some 6))] []) (.seq (.label 0) (.seq
  (.reg [(none, (.mov (.tmp 0), .some 9)), (none, (.call (.func 117) [.tmp 9], .some 10)), (none, (.mov (.tmp 10), .some 4))] []) (.seq (.block 0 (.seq
  (.reg [(none, (.mov (.tmp 0), .some 12)), (none, (.call (.func 60) [.tmp 12], .some 13)), (none, (.un .not (.tmp 13), .some 14)), (none, (.mov (.tmp 14), .some 11))] []) (.cond (.tmp 11) (.seq
  (.reg [(none, (.mov (.const (.int .u64 0)), .some 2))] []) .ret) (.seq
  (.reg [(none, (.mov (.tmp 5), .some 16)), (none, (.bin .eql (.tmp 16) (.const (.int .i64 63)), .some 17)), (none, (.mov (.tmp 17), .some 18)), (.some (18, .true), (.mov (.tmp 4), .some 19)), (.some (18, .true), (.bin .gtr (.tmp 19) (.const (.int .u8 1)), .some 20)), (none, (.pick (.tmp 18) (.tmp 20) (.const (.bool .false)), .some 21)), (none, (.mov (.tmp 21), .some 15))] []) (.cond (.tmp 15) (.seq
  (.reg [(none, (.mov (.tmp 0), .some 22)), (none, (.mov (.tmp 0), .some 23)), (none, (.call (.func 57) [.tmp 23], .some 24)), (none, (.bin .sub (.tmp 24) (.const (.int .i64 1)), .some 25)), (none, (.call (.func 92) [.tmp 22, .const (.int .i64 5), .tmp 25], .some 26))] []) (.seq
  (.reg [(none, (.mov (.const (.int .u64 0)), .some 2))] []) .ret)) (.seq
  (.reg [(none, (.mov (.tmp 4), .some 28)), (none, (.bin .eql (.tmp 28) (.const (.int .u8 0)), .some 29)), (none, (.mov (.tmp 29), .some 30)), (.some (30, .true), (.mov (.tmp 0), .some 31)), (.some (30, .true), (.call (.func 57) [.tmp 31], .some 32)), (.some (30, .true), (.bin .sub (.tmp 32) (.const (.int .i64 1)), .some 33)), (.some (30, .true), (.mov (.tmp 6), .some 34)), (.some (30, .true), (.bin .gtr (.tmp 33) (.tmp 34), .some 35)), (none, (.pick (.tmp 30) (.tmp 35) (.const (.bool .false)), .some 36)), (none, (.mov (.tmp 36), .some 27))] []) (.cond (.tmp 27) (.seq
  (.reg [(none, (.mov (.tmp 0), .some 37)), (none, (.mov (.tmp 0), .some 38)), (none, (.call (.func 57) [.tmp 38], .some 39)), (none, (.bin .sub (.tmp 39) (.const (.int .i64 1)), .some 40)), (none, (.call (.func 92) [.tmp 37, .const (.int .i64 4), .tmp 40], .some 41))] []) (.seq
  (.reg [(none, (.mov (.const (.int .u64 0)), .some 2))] []) .ret)) .skip))))))) (.seq
  (.reg [(none, (.mov (.tmp 3), .some 42)), (none, (.mov (.tmp 4), .some 43)), (none, (.bin .rem (.tmp 43) (.const (.int .u8 128)), .some 44)), (none, (.cvt .u64 (.tmp 44), .some 45)), (none, (.mov (.tmp 5), .some 46)), (none, (.bin .shl (.tmp 45) (.tmp 46), .some 47)), (none, (.bin .or (.tmp 42) (.tmp 47), .some 48)), (none, (.mov (.tmp 48), .some 3))] []) (.seq
  (.reg [(none, (.mov (.tmp 5), .some 49)), (none, (.bin .add (.tmp 49) (.const (.int .i64 7)), .some 50)), (none, (.mov (.tmp 50), .some 5))] []) (.seq (.seq
  (.reg [(none, (.mov (.tmp 4), .some 51)), (none, (.bin .geq (.tmp 51) (.const (.int .u8 128)), .some 52))] []) (.cond (.tmp 52) (.goto 0) .skip)) (.seq
  (.reg [(none, (.mov (.tmp 3), .some 53)), (none, (.mov (.tmp 53), .some 2))] []) .ret)))))))))))
theorem b99 : Try.f99.body.bind (compC Try.prog) = some c99 := by kernel_rfl
theorem r99 : compR Try.prog Try.f99 = .some [.tmp 2] := by kernel_rfl
theorem n99 : (Try.f99.name == "runtime.NumGoroutine") = false := by kernel_rfl
def c109 : C := .seq
  (.reg [(none, (.mov (.const (.int .u32 0)), .some 2))] []) (.seq
  (.reg [(none, (.mov (.tmp 0), .some 3)), (none, (.un .xor (.tmp 3), .some 4)), (none, (.mov (.tmp 4), .some 2))] []) .ret)
theorem b109 : Try.f109.body.bind (compC Try.prog) = some c109 := by kernel_rfl
theorem r109 : compR Try.prog Try.f109 = .some [.tmp 2] := by kernel_rfl
theorem n109 : (Try.f109.name == "runtime.NumGoroutine") = false := by kernel_rfl
def c110 : C := .seq
  (.reg [(none, (.mov (.const (.int .u32 0)), .some 4))] []) (.seq
  (.reg [(none, (.call (.func 120) [], .some 8)), (none, (.new [.int .u32 0, .int .u32 0, .int .u32 0, .int .u32 0, .int .u32 0, .int .u32 0, .int .u32 0, .int .u32 0, .int .u32 0, .int .u32 0, .int .u32 0, .int .u32 0, .int .u32 0, .int .u32 0, .int .u32 0, .int .u32 0], .some 5)), (none, (.store 16 (.tmp 5) (.tmp 8), none))] []) (.seq (.seq
  (.reg [(none, (.mov (.tmp 1), .some 9)), (none, (.len .false (.tmp 9), .some 10)), (none, (.mov (.const (.int .i64 0)), .some 11))] []) (.block 0 (.loop (.seq
  (.reg [(none, (.bin .lss (.tmp 11) (.tmp 10), .some 12))] []) (.seq (.cond (.tmp 12) .skip (.exit 0)) (.seq (.block 1 (.seq
  (.reg [(none, (.iadr 1 (.tmp 9) (.tmp 11), .some 13)), (none, (.load none (.tmp 13), .some 14)), (none, (.mov (.tmp 14), .some 7))] []) (.seq
  (.reg [(none, (.mov (.tmp 0), .some 15)), (none, (.mov (.tmp 7), .some 16)), (none, (.cvt .u32 (.tmp 16), .some 17)), (none, (.bin .xor (.tmp 15) (.tmp 17), .some 18)), (none, (.mov (.tmp 18), .some 0))] []) (.seq
  (.reg [(none, (.mov (.tmp 0), .some 19)), (none, (.bin .shr (.tmp 19) (.const (.int .u64 4)), .some 20)), (none, (.mov (.tmp 0), .some 21)), (none, (.bin .and (.tmp 21) (.const (.int .u32 15)), .some 22)), (none, (.aadr 16 1 (.tmp 5) (.tmp 22), .some 23)), (none, (.load none (.tmp 23), .some 24)), (none, (.bin .xor (.tmp 20) (.tmp 24), .some 25)), (none, (.mov (.tmp 25), .some 0))] [])
  (.reg [(none, (.mov (.tmp 0), .some 26)), (none, (.bin .shr (.tmp 26) (.const (.int .u64 4)), .some 27)), (none, (.mov (.tmp 0), .some 28)), (none, (.bin .and (.tmp 28) (.const (.int .u32 15)), .some 29)), (none, (.aadr 16 1 (.tmp 5) (.tmp 29), .some 30)), (none, (.load none (.tmp 30), .some 31)), (none, (.bin .xor (.tmp 27) (.tmp 31), .some 32)), (none, (.mov (.tmp 32), .some 0))] [])))))
  (.reg [(none, (.bin .add (.tmp 11) (.const (.int .i64 1)), .some 33)), (none, (.mov (.tmp 33), .some 11))] []))))))) (.seq
  (.reg [(none, (.mov (.tmp 0), .some 34)), (none, (.mov (.tmp 34), .some 4))] []) .ret)))
theorem b110 : Try.f110.body.bind (compC Try.prog) = some c110 := by kernel_rfl
theorem r110 : compR Try.prog Try.f110 = .some [.tmp 4] := by kernel_rfl
theorem n110 : (Try.f110.name == "runtime.NumGoroutine") = false := by kernel_rfl
def c112 : C := .seq
  (.reg [(none, (.mov (.const (.int .u32 0)), .some 4))] []) (.seq (.seq
  (.reg [(none, (.mov (.const (.int .i64 0)), .some 5))] []) (.block 0 (.loop (.seq (.seq
  (.reg [(none, (.mov (.tmp 5), .some 6)), (none, (.mov (.tmp 1), .some 7)), (none, (.len .false (.tmp 7), .some 8)), (none, (.bin .lss (.tmp 6) (.tmp 8), .some 9))] []) (.cond (.tmp 9) .skip (.exit 0))) (.seq (.block 1
  (.reg [(none, (.mov (.tmp 0), .some 12)), (none, (.mov (.tmp 1), .some 13)), (none, (.mov (.tmp 5), .some 14)), (none, (.iadr 1 (.tmp 13) (.tmp 14), .some 15)), (none, (.load none (.tmp 15), .some 16)), (none, (.call (.func 121) [.tmp 12, .tmp 16], .some 17)), (none, (.mov (.tmp 17), .some 0))] []))
  (.reg [(none, (.mov (.tmp 5), .some 10)), (none, (.bin .add (.tmp 10) (.const (.int .i64 1)), .some 11)), (none, (.mov (.tmp 11), .some 5))] [])))))) (.seq
  (.reg [(none, (.mov (.tmp 0), .some 18)), (none, (.mov (.tmp 18), .some 4))] []) .ret))
theorem b112 : Try.f112.body.bind (compC Try.prog) = some c112 := by kernel_rfl
theorem r112 : compR Try.prog Try.f112 = .some [.tmp 4] := by kernel_rfl
theorem n112 : (Try.f112.name == "runtime.NumGoroutine") = false := by kernel_rfl
def c118 : C := .seq
  (.reg [(none, (.mov (.const (.int .u64 0)), .some 4))] []) (.seq
  (.reg [(none, (.mov (.tmp 0), .some 7)), (none, (.call (.func 57) [.tmp 7], .some 8)), (none, (.mov (.tmp 8), .some 5))] []) (.seq
  (.reg [(none, (.mov (.tmp 0), .some 9)), (none, (.call (.func 99) [.tmp 9], .some 10)), (none, (.mov (.tmp 10), .some 6))] []) (.seq (.seq
  (.reg [(none, (.mov (.tmp 6), .some 11)), (none, (.mov (.tmp 1), .some 12)), (none, (.bin .gtr (.tmp 11) (.tmp 12), .some 13))] []) (.cond (.tmp 13) (.seq
  (.reg [(none, (.mov (.tmp 0), .some 14)), (none, (.mov (.tmp 5), .some 15)), (none, (.call (.func 92) [.tmp 14, .const (.int .i64 2), .tmp 15], .some 16))] []) (.seq
  (.reg [(none, (.mov (.const (.int .u64 0)), .some 4))] []) .ret)) .skip)) (.seq
  (.reg [(none, (.mov (.tmp 6), .some 17)), (none, (.mov (.tmp 17), .some 4))] []) .ret))))
theorem b118 : Try.f118.body.bind (compC Try.prog) = some c118 := by kernel_rfl
theorem r118 : compR Try.prog Try.f118 = .some [.tmp 4] := by kernel_rfl
theorem n118 : (Try.f118.name == "runtime.NumGoroutine") = false := by kernel_rfl
def c122 : C := .seq
  (.reg [(none, (.mov (.const (.int .u32 0)), .some 2))] []) (.seq (.seq
  (.reg [(none, (.mov (.tmp 0), .some 3)), (none, (.bin .and (.tmp 3) (.const (.int .u32 1)), .some 4)), (none, (.bin .eql (.tmp 4) (.const (.int .u32 1)), .some 5))] []) (.cond (.tmp 5) (.seq
  (.reg [(none, (.mov (.tmp 0), .some 6)), (none, (.bin .shr (.tmp 6) (.const (.int .u64 1)), .some 7)), (none, (.bin .xor (.tmp 7) (.const (.int .u32 2197175160)), .some 8)), (none, (.mov (.tmp 8), .some 2))] []) .ret) .skip)) (.seq
  (.reg [(none, (.mov (.tmp 0), .some 9)), (none, (.bin .shr (.tmp 9) (.const (.int .u64 1)), .some 10)), (none, (.mov (.tmp 10), .some 2))] []) .ret))
theorem b122 : Try.f122.body.bind (compC Try.prog) = some c122 := by kernel_rfl
theorem r122 : compR Try.prog Try.f122 = .some [.tmp 2] := by kernel_rfl
theorem n122 : (Try.f122.name == "runtime.NumGoroutine") = false := by kernel_rfl
end Go.Proofs.Ytpjkmidjjodplaa
