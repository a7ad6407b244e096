/-
  The codes of the seat's functions over abstract values, each shown to be its function's own (by program: wip/tools/codes.py).
-/
import Derived.Test.YtpjkmidjjodplaaA2
import Derived.Test.YtpjkmidjjodplaaProg
import Derived.KernelRfl
namespace Go.Proofs.Ytpjkmidjjodplaa
def c7 : C := .seq
  (.reg [(none, (.mov (.const (.bool .false)), .some 4))] []) (.seq (.seq
  (.reg [(none, (.mov (.tmp 0), .some 16)), (none, (.call (.func 17) [.tmp 16], .some 17))] []) (.cond (.tmp 17) (.seq
  (.reg [(none, (.call (.func 18) [], .some 18)), (none, (.mov (.tmp 18), .some 4))] []) .ret) .skip)) (.seq
  (.reg [(none, (.mov (.tmp 0), .some 20)), (none, (.call (.func 20) [.tmp 20, .const (.int .i64 5000)], .some 21)), (none, (.mov (.tmp 21), .some 19)), (none, (.ext (.tmp 19) 0, .some 22)), (none, (.ext (.tmp 19) 1, .some 23)), (none, (.new [.int .i64 0, .int .i64 0], .some 6)), (none, (.mov (.tmp 22), .some 5)), (none, (.store 2 (.tmp 6) (.tmp 23), none))] []) (.seq (.seq
  (.reg [(none, (.fadr 0 (.tmp 6), .some 24)), (none, (.load none (.tmp 24), .some 25)), (none, (.bin .neq (.tmp 25) (.const (.int .i64 0)), .some 26))] []) (.cond (.tmp 26) (.seq
  (.reg [(none, (.call (.func 18) [], .some 27)), (none, (.mov (.tmp 27), .some 4))] []) .ret) .skip)) (.seq
  (.reg [(none, (.mov (.tmp 5), .some 28)), (none, (.len .false (.tmp 28), .some 29)), (none, (.mov (.tmp 29), .some 7))] []) (.seq
  (.reg [(none, (.mov (.tmp 0), .some 31)), (none, (.call (.func 42) [.tmp 31], .some 32)), (none, (.mov (.tmp 7), .some 33)), (none, (.call (.func 47) [.tmp 32, .tmp 33], .some 34)), (none, (.mov (.tmp 34), .some 30)), (none, (.ext (.tmp 30) 0, .some 35)), (none, (.ext (.tmp 30) 1, .some 36)), (none, (.new [.int .i64 0, .int .i64 0], .some 9)), (none, (.mov (.tmp 35), .some 8)), (none, (.store 2 (.tmp 9) (.tmp 36), none))] []) (.seq
  (.reg [(none, (.mov (.tmp 0), .some 38)), (none, (.mov (.tmp 7), .some 39)), (none, (.call (.func 19) [.tmp 38, .tmp 39], .some 40)), (none, (.mov (.tmp 40), .some 37)), (none, (.ext (.tmp 37) 0, .some 41)), (none, (.ext (.tmp 37) 1, .some 42)), (none, (.new [.int .i64 0, .int .i64 0], .some 11)), (none, (.mov (.tmp 41), .some 10)), (none, (.store 2 (.tmp 11) (.tmp 42), none))] []) (.seq
  (.reg [(none, (.mov (.tmp 0), .some 44)), (none, (.call (.func 42) [.tmp 44], .some 45)), (none, (.call (.func 47) [.tmp 45, .const (.int .i64 4611686018427387904)], .some 46)), (none, (.mov (.tmp 46), .some 43)), (none, (.ext (.tmp 43) 0, .some 47)), (none, (.ext (.tmp 43) 1, .some 48)), (none, (.new [.int .i64 0, .int .i64 0], .some 13)), (none, (.mov (.tmp 47), .some 12)), (none, (.store 2 (.tmp 13) (.tmp 48), none))] []) (.seq (.seq
  (.reg [(none, (.fadr 0 (.tmp 9), .some 49)), (none, (.load none (.tmp 49), .some 50)), (none, (.bin .neq (.tmp 50) (.const (.int .i64 0)), .some 51)), (none, (.mov (.tmp 51), .some 52)), (.some (52, .false), (.fadr 0 (.tmp 11), .some 53)), (.some (52, .false), (.load none (.tmp 53), .some 54)), (.some (52, .false), (.bin .neq (.tmp 54) (.const (.int .i64 0)), .some 55)), (none, (.pick (.tmp 52) (.const (.bool .true)) (.tmp 55), .some 56)), (none, (.mov (.tmp 56), .some 57)), (.some (57, .false), (.fadr 0 (.tmp 13), .some 58)), (.some (57, .false), (.load none (.tmp 58), .some 59)), (.some (57, .false), (.bin .neq (.tmp 59) (.const (.int .i64 0)), .some 60)), (none, (.pick (.tmp 57) (.const (.bool .true)) (.tmp 60), .some 61)), (none, (.mov (.tmp 61), .some 62)), (.some (62, .false), (.mov (.tmp 8), .some 63)), (.some (62, .false), (.mov (.tmp 5), .some 64)), (.some (62, .false), (.call (.func 21) [.tmp 63, .tmp 64], .some 65)), (.some (62, .false), (.un .not (.tmp 65), .some 66)), (none, (.pick (.tmp 62) (.const (.bool .true)) (.tmp 66), .some 67)), (none, (.mov (.tmp 67), .some 68)), (.some (68, .false), (.mov (.tmp 10), .some 69)), (.some (68, .false), (.mov (.tmp 5), .some 70)), (.some (68, .false), (.call (.func 21) [.tmp 69, .tmp 70], .some 71)), (.some (68, .false), (.un .not (.tmp 71), .some 72)), (none, (.pick (.tmp 68) (.const (.bool .true)) (.tmp 72), .some 73)), (none, (.mov (.tmp 73), .some 74)), (.some (74, .false), (.mov (.tmp 12), .some 75)), (.some (74, .false), (.mov (.tmp 5), .some 76)), (.some (74, .false), (.call (.func 21) [.tmp 75, .tmp 76], .some 77)), (.some (74, .false), (.un .not (.tmp 77), .some 78)), (none, (.pick (.tmp 74) (.const (.bool .true)) (.tmp 78), .some 79))] []) (.cond (.tmp 79) (.seq
  (.reg [(none, (.mov (.const (.bool .false)), .some 4))] []) .ret) .skip)) (.seq
  (.reg [(none, (.mov (.tmp 1), .some 80)), (none, (.mx .true (.tmp 80) (.const (.int .i64 (-5))), .some 81)), (none, (.mov (.tmp 7), .some 82)), (none, (.bin .sub (.tmp 82) (.const (.int .i64 1)), .some 83)), (none, (.mx .false (.tmp 81) (.tmp 83), .some 84)), (none, (.mov (.tmp 84), .some 1))] []) (.seq (.seq
  (.reg [(none, (.mov (.tmp 7), .some 85)), (none, (.bin .eql (.tmp 85) (.const (.int .i64 0)), .some 86))] []) (.cond (.tmp 86) (.seq
  (.reg [(none, (.call (.func 18) [], .some 87)), (none, (.mov (.tmp 87), .some 4))] []) .ret) .skip)) (.seq
  (.reg [(none, (.mov (.tmp 0), .some 89)), (none, (.call (.func 42) [.tmp 89], .some 90)), (none, (.mov (.tmp 1), .some 91)), (none, (.call (.func 47) [.tmp 90, .tmp 91], .some 92)), (none, (.mov (.tmp 92), .some 88)), (none, (.ext (.tmp 88) 0, .some 93)), (none, (.ext (.tmp 88) 1, .some 94)), (none, (.new [.int .i64 0, .int .i64 0], .some 15)), (none, (.mov (.tmp 93), .some 14)), (none, (.store 2 (.tmp 15) (.tmp 94), none))] []) (.seq
  (.reg [(none, (.mov (.tmp 14), .some 95)), (none, (.len .false (.tmp 95), .some 96)), (none, (.bin .eql (.tmp 96) (.const (.int .i64 0)), .some 97)), (none, (.mov (.tmp 97), .some 98)), (.some (98, .true), (.fadr 0 (.tmp 15), .some 99)), (.some (98, .true), (.load none (.tmp 99), .some 100)), (.some (98, .true), (.bin .eql (.tmp 100) (.const (.int .i64 11)), .some 101)), (none, (.pick (.tmp 98) (.tmp 101) (.const (.bool .false)), .some 102)), (none, (.mov (.tmp 102), .some 103)), (.some (103, .true), (.call (.func 18) [], .some 104)), (none, (.pick (.tmp 103) (.tmp 104) (.const (.bool .false)), .some 105)), (none, (.mov (.tmp 105), .some 4))] []) .ret))))))))))))
theorem b7 : Try.f7.body.bind (compC Try.prog) = some c7 := by kernel_rfl
theorem r7 : compR Try.prog Try.f7 = .some [.tmp 4] := by kernel_rfl
theorem n7 : (Try.f7.name == "runtime.NumGoroutine") = false := by kernel_rfl
def c17 : C := .seq
  (.reg [(none, (.mov (.const (.bool .false)), .some 2))] []) (.seq (.seq
  (.reg [(none, (.mov (.const (.int .i64 0)), .some 3))] []) (.block 0 (.loop (.seq (.seq
  (.reg [(none, (.mov (.tmp 3), .some 4)), (none, (.mov (.tmp 0), .some 5)), (none, (.len .false (.tmp 5), .some 6)), (none, (.bin .lss (.tmp 4) (.tmp 6), .some 7)), (none, (.mov (.tmp 7), .some 8)), (.some (8, .true), (.mov (.tmp 3), .some 9)), (.some (8, .true), (.bin .lss (.tmp 9) (.const (.int .i64 100)), .some 10)), (none, (.pick (.tmp 8) (.tmp 10) (.const (.bool .false)), .some 11))] []) (.cond (.tmp 11) .skip (.exit 0))) (.seq (.block 1 (.seq
  (.reg [(none, (.mov (.tmp 0), .some 14)), (none, (.mov (.tmp 3), .some 15)), (none, (.iadr 3 (.tmp 14) (.tmp 15), .some 16)), (none, (.fadr 0 (.tmp 16), .some 17)), (none, (.load none (.tmp 17), .some 18)), (none, (.len .false (.tmp 18), .some 19)), (none, (.bin .gtr (.tmp 19) (.const (.int .i64 300)), .some 20))] []) (.cond (.tmp 20) (.seq
  (.reg [(none, (.mov (.const (.bool .true)), .some 2))] []) .ret) .skip)))
  (.reg [(none, (.mov (.tmp 3), .some 12)), (none, (.bin .add (.tmp 12) (.const (.int .i64 1)), .some 13)), (none, (.mov (.tmp 13), .some 3))] [])))))) (.seq
  (.reg [(none, (.mov (.tmp 0), .some 21)), (none, (.len .false (.tmp 21), .some 22)), (none, (.bin .gtr (.tmp 22) (.const (.int .i64 100)), .some 23)), (none, (.mov (.tmp 23), .some 2))] []) .ret))
theorem b17 : Try.f17.body.bind (compC Try.prog) = some c17 := by kernel_rfl
theorem r17 : compR Try.prog Try.f17 = .some [.tmp 2] := by kernel_rfl
theorem n17 : (Try.f17.name == "runtime.NumGoroutine") = false := by kernel_rfl
def c24 : C := .seq
  (.reg [(none, (.mov (.const (.slice none 0 0)), .some 2)), (none, (.mov (.const (.bool .false)), .some 3))] []) (.seq (.seq
  (.reg [(none, (.mov (.tmp 0), .some 7)), (none, (.call (.func 75) [.tmp 7], .some 8)), (none, (.un .not (.tmp 8), .some 9))] []) (.cond (.tmp 9) (.seq
  (.reg [(none, (.mov (.const (.slice none 0 0)), .some 2)), (none, (.mov (.const (.bool .false)), .some 3))] []) .ret) .skip)) (.seq
  (.reg [(none, (.mov (.const (.slice none 0 0)), .some 4))] []) (.seq (.seq
  (.reg [(none, (.mov (.tmp 0), .some 10)), (none, (.len .false (.tmp 10), .some 11)), (none, (.mov (.const (.int .i64 0)), .some 12))] []) (.block 0 (.loop (.seq
  (.reg [(none, (.bin .lss (.tmp 12) (.tmp 11), .some 13))] []) (.seq (.cond (.tmp 13) .skip (.exit 0)) (.seq (.block 1 (.seq
  (.reg [(none, (.iadr 3 (.tmp 10) (.tmp 12), .some 14)), (none, (.load (.some 3) (.tmp 14), .some 15)), (none, (.new [.slice none 0 0, .int .i64 0, .int .i64 0], .some 6)), (none, (.store 3 (.tmp 6) (.tmp 15), none))] []) (.seq (.seq
  (.reg [(none, (.fadr 0 (.tmp 6), .some 16)), (none, (.load none (.tmp 16), .some 17)), (none, (.len .false (.tmp 17), .some 18)), (none, (.mov (.const (.int .i64 0)), .some 19))] []) (.block 2 (.loop (.seq
  (.reg [(none, (.bin .lss (.tmp 19) (.tmp 18), .some 20))] []) (.seq (.cond (.tmp 20) .skip (.exit 2)) (.seq (.block 3
  (.reg [(none, (.mov (.tmp 4), .some 21)), (none, (.bsl 1 [.const (.int .i64 0)], .some 22)), (none, (.app 1 8 (.tmp 21) (.tmp 22), .some 23)), (none, (.mov (.tmp 23), .some 4))] []))
  (.reg [(none, (.bin .add (.tmp 19) (.const (.int .i64 1)), .some 24)), (none, (.mov (.tmp 24), .some 19))] []))))))) (.seq
  (.reg [(none, (.fadr 2 (.tmp 6), .some 25)), (none, (.load none (.tmp 25), .some 26)), (none, (.mov (.const (.int .i64 0)), .some 27))] []) (.block 4 (.loop (.seq
  (.reg [(none, (.bin .lss (.tmp 27) (.tmp 26), .some 28))] []) (.seq (.cond (.tmp 28) .skip (.exit 4)) (.seq (.block 5
  (.reg [(none, (.mov (.tmp 4), .some 29)), (none, (.mov (.tmp 4), .some 30)), (none, (.mov (.tmp 4), .some 31)), (none, (.len .false (.tmp 31), .some 32)), (none, (.fadr 1 (.tmp 6), .some 33)), (none, (.load none (.tmp 33), .some 34)), (none, (.bin .sub (.tmp 32) (.tmp 34), .some 35)), (none, (.iadr 1 (.tmp 30) (.tmp 35), .some 36)), (none, (.load none (.tmp 36), .some 37)), (none, (.bin .add (.tmp 37) (.const (.int .i64 1)), .some 38)), (none, (.bsl 1 [.tmp 38], .some 39)), (none, (.app 1 8 (.tmp 29) (.tmp 39), .some 40)), (none, (.mov (.tmp 40), .some 4))] []))
  (.reg [(none, (.bin .add (.tmp 27) (.const (.int .i64 1)), .some 41)), (none, (.mov (.tmp 41), .some 27))] []))))))))))
  (.reg [(none, (.bin .add (.tmp 12) (.const (.int .i64 1)), .some 42)), (none, (.mov (.tmp 42), .some 12))] []))))))) (.seq
  (.reg [(none, (.mov (.tmp 4), .some 43)), (none, (.mov (.tmp 43), .some 2)), (none, (.mov (.const (.bool .true)), .some 3))] []) .ret))))
theorem b24 : Try.f24.body.bind (compC Try.prog) = some c24 := by kernel_rfl
theorem r24 : compR Try.prog Try.f24 = .some [.tmp 2, .tmp 3] := by kernel_rfl
theorem n24 : (Try.f24.name == "runtime.NumGoroutine") = false := by kernel_rfl
def c47 : C := .seq
  (.reg [(none, (.mov (.const (.slice none 0 0)), .some 4)), (none, (.new [.int .i64 0, .int .i64 0], .some 5))] []) (.scope (.seq
  (.reg [(none, (.mov (.tmp 0), .some 13)), (none, (.call (.func 53) [.tmp 13], .some 14)), (none, (.mov (.tmp 14), .some 6))] []) (.seq
  (.reg [(none, (.mov (.const (.slice none 0 0)), .some 7))] []) (.seq
  (.reg [(none, (.mov (.const (.bool .false)), .some 8))] []) (.seq
  (.reg [(none, (.mov (.const (.int .i64 0)), .some 9)), (none, (.mov (.const (.int .i64 0)), .some 10)), (none, (.mov (.const (.int .i64 0)), .some 11))] []) (.seq (.label 1) (.seq (.seq
  (.reg [(none, (.mov (.tmp 6), .some 15)), (none, (.call (.func 91) [.tmp 15], .some 16)), (none, (.bin .eql (.tmp 16) (.const (.int .i64 0)), .some 17)), (none, (.mov (.tmp 17), .some 18)), (.some (18, .false), (.mov (.tmp 6), .some 19)), (.some (18, .false), (.call (.func 60) [.tmp 19], .some 20)), (.some (18, .false), (.un .not (.tmp 20), .some 21)), (none, (.pick (.tmp 18) (.const (.bool .true)) (.tmp 21), .some 22))] []) (.cond (.tmp 22) (.goto 0) .skip)) (.seq
  (.reg [(none, (.mov (.tmp 6), .some 23)), (none, (.call (.func 57) [.tmp 23], .some 24)), (none, (.mov (.tmp 24), .some 9))] []) (.seq
  (.reg [(none, (.mov (.tmp 6), .some 26)), (none, (.call (.func 58) [.tmp 26], .some 27)), (none, (.mov (.tmp 27), .some 25)), (none, (.ext (.tmp 25) 0, .some 28)), (none, (.ext (.tmp 25) 1, .some 29)), (none, (.mov (.tmp 28), .some 8)), (none, (.mov (.tmp 29), .some 10))] []) (.seq (.seq
  (.reg [(none, (.mov (.tmp 10), .some 30)), (none, (.mov (.tmp 1), .some 31)), (none, (.mov (.tmp 7), .some 32)), (none, (.len .false (.tmp 32), .some 33)), (none, (.bin .sub (.tmp 31) (.tmp 33), .some 34)), (none, (.bin .gtr (.tmp 30) (.tmp 34), .some 35))] []) (.cond (.tmp 35) (.seq
  (.reg [(none, (.mov (.tmp 6), .some 36)), (none, (.mov (.tmp 9), .some 37)), (none, (.call (.func 92) [.tmp 36, .const (.int .i64 11), .tmp 37], .some 38))] []) (.goto 0)) .skip)) (.seq (.seq
  (.reg [(none, (.mov (.tmp 8), .some 39)), (none, (.un .not (.tmp 39), .some 40))] []) (.cond (.tmp 40) (.seq
  (.reg [(none, (.mov (.tmp 7), .some 41)), (none, (.mov (.tmp 6), .some 42)), (none, (.mov (.tmp 10), .some 43)), (none, (.call (.func 93) [.tmp 42, .tmp 43], .some 44)), (none, (.app 1 1 (.tmp 41) (.tmp 44), .some 45)), (none, (.mov (.tmp 45), .some 7))] []) (.goto 1)) .skip)) (.seq
  (.reg [(none, (.mov (.tmp 6), .some 46)), (none, (.call (.func 57) [.tmp 46], .some 47)), (none, (.mov (.tmp 47), .some 9))] []) (.seq
  (.reg [(none, (.mov (.tmp 6), .some 48)), (none, (.call (.func 59) [.tmp 48], .some 49)), (none, (.mov (.tmp 49), .some 11))] []) (.seq (.seq
  (.reg [(none, (.mov (.tmp 11), .some 50)), (none, (.mov (.tmp 7), .some 51)), (none, (.len .false (.tmp 51), .some 52)), (none, (.bin .gtr (.tmp 50) (.tmp 52), .some 53))] []) (.cond (.tmp 53)
  (.reg [(none, (.mov (.tmp 6), .some 54)), (none, (.mov (.tmp 9), .some 55)), (none, (.call (.func 92) [.tmp 54, .const (.int .i64 10), .tmp 55], .some 56))] []) .skip)) (.seq (.seq
  (.reg [(none, (.mov (.tmp 6), .some 57)), (none, (.call (.func 60) [.tmp 57], .some 58))] []) (.cond (.tmp 58)
  (.reg [(none, (.mov (.tmp 7), .some 59)), (none, (.mov (.tmp 11), .some 60)), (none, (.mov (.tmp 10), .some 61)), (none, (.call (.func 72) [.tmp 59, .tmp 60, .tmp 61], .some 62)), (none, (.mov (.tmp 62), .some 7))] []) .skip)) (.seq (.goto 1) (.seq (.label 0) (.seq (.seq
  (.reg [(none, (.mov (.tmp 6), .some 63)), (none, (.call (.func 56) [.tmp 63], .some 64)), (none, (.new [.int .i64 0, .int .i64 0], .some 12)), (none, (.store 2 (.tmp 12) (.tmp 64), none))] []) (.seq
  (.reg [(none, (.load (.some 2) (.tmp 12), .some 65)), (none, (.call (.func 94) [.tmp 65], .some 66)), (none, (.un .not (.tmp 66), .some 67))] []) (.cond (.tmp 67) (.seq
  (.reg [(none, (.load (.some 2) (.tmp 12), .some 68)), (none, (.mov (.const (.slice none 0 0)), .some 4)), (none, (.store 2 (.tmp 5) (.tmp 68), none))] []) .ret) .skip))) (.seq
  (.reg [(none, (.mov (.tmp 7), .some 69)), (none, (.build [.int .i64 0, .int .i64 0] [], .some 70)), (none, (.mov (.tmp 69), .some 4)), (none, (.store 2 (.tmp 5) (.tmp 70), none))] []) .ret)))))))))))))))))))
theorem b47 : Try.f47.body.bind (compC Try.prog) = some c47 := by kernel_rfl
theorem r47 : compR Try.prog Try.f47 = .some [.tmp 4, .cell 5 (.some 2)] := by kernel_rfl
theorem n47 : (Try.f47.name == "runtime.NumGoroutine") = false := by kernel_rfl
def c49 : C := .seq
  (.reg [(none, (.mov (.const (.int .i64 0)), .some 2)), (none, (.new [.int .i64 0, .int .i64 0], .some 3))] []) (.seq
  (.reg [(none, (.mov (.tmp 0), .some 8)), (none, (.call (.func 53) [.tmp 8], .some 9)), (none, (.mov (.tmp 9), .some 4))] []) (.seq
  (.reg [(none, (.mov (.const (.int .i64 0)), .some 5))] []) (.seq (.block 0 (.loop (.seq (.seq
  (.reg [(none, (.mov (.tmp 4), .some 10)), (none, (.call (.func 60) [.tmp 10], .some 11)), (none, (.mov (.tmp 11), .some 12)), (.some (12, .true), (.mov (.tmp 4), .some 13)), (.some (12, .true), (.call (.func 91) [.tmp 13], .some 14)), (.some (12, .true), (.bin .gtr (.tmp 14) (.const (.int .i64 0)), .some 15)), (none, (.pick (.tmp 12) (.tmp 15) (.const (.bool .false)), .some 16))] []) (.cond (.tmp 16) .skip (.exit 0))) (.block 1 (.seq
  (.reg [(none, (.mov (.tmp 4), .some 17)), (none, (.call (.func 57) [.tmp 17], .some 18)), (none, (.mov (.tmp 18), .some 6))] []) (.seq
  (.reg [(none, (.mov (.tmp 5), .some 19)), (none, (.mov (.tmp 4), .some 20)), (none, (.call (.func 54) [.tmp 20], .some 21)), (none, (.call (.func 40) [.tmp 21], .some 22)), (none, (.bin .add (.tmp 19) (.tmp 22), .some 23)), (none, (.mov (.tmp 23), .some 5))] []) (.seq
  (.reg [(none, (.mov (.tmp 5), .some 24)), (none, (.bin .gtr (.tmp 24) (.const (.int .i64 1099511627776)), .some 25))] []) (.cond (.tmp 25)
  (.reg [(none, (.mov (.tmp 4), .some 26)), (none, (.mov (.tmp 6), .some 27)), (none, (.call (.func 92) [.tmp 26, .const (.int .i64 2), .tmp 27], .some 28))] []) .skip)))))))) (.seq (.seq
  (.reg [(none, (.mov (.tmp 4), .some 29)), (none, (.call (.func 56) [.tmp 29], .some 30)), (none, (.new [.int .i64 0, .int .i64 0], .some 7)), (none, (.store 2 (.tmp 7) (.tmp 30), none))] []) (.seq
  (.reg [(none, (.load (.some 2) (.tmp 7), .some 31)), (none, (.call (.func 94) [.tmp 31], .some 32)), (none, (.un .not (.tmp 32), .some 33))] []) (.cond (.tmp 33) (.seq
  (.reg [(none, (.load (.some 2) (.tmp 7), .some 34)), (none, (.mov (.const (.int .i64 0)), .some 2)), (none, (.store 2 (.tmp 3) (.tmp 34), none))] []) .ret) .skip))) (.seq
  (.reg [(none, (.mov (.tmp 5), .some 35)), (none, (.build [.int .i64 0, .int .i64 0] [], .some 36)), (none, (.mov (.tmp 35), .some 2)), (none, (.store 2 (.tmp 3) (.tmp 36), none))] []) .ret)))))
theorem b49 : Try.f49.body.bind (compC Try.prog) = some c49 := by kernel_rfl
theorem r49 : compR Try.prog Try.f49 = .some [.tmp 2, .cell 3 (.some 2)] := by kernel_rfl
theorem n49 : (Try.f49.name == "runtime.NumGoroutine") = false := by kernel_rfl
def c53 : C := .seq
  (.reg [(none, (.mov (.const (.pointer none)), .some 2))] []) (.seq
  (.reg [(none, (.mov (.tmp 0), .some 3)), (none, (.mov (.tmp 0), .some 4)), (none, (.len .false (.tmp 4), .some 5)), (none, (.mov (.tmp 0), .some 6)), (none, (.len .false (.tmp 6), .some 7)), (none, (.slice 1 (.tmp 3) none (.some (.tmp 5)) (.some (.tmp 7)), .some 8)), (none, (.build [.slice none 0 0, .int .i64 0, .int .i64 0, .int .i64 0] [(0, (1, .tmp 8))], .some 9)), (none, (.box (.tmp 9), .some 10)), (none, (.mov (.tmp 10), .some 2))] []) .ret)
theorem b53 : Try.f53.body.bind (compC Try.prog) = some c53 := by kernel_rfl
theorem r53 : compR Try.prog Try.f53 = .some [.tmp 2] := by kernel_rfl
theorem n53 : (Try.f53.name == "runtime.NumGoroutine") = false := by kernel_rfl
def c54 : C := .seq
  (.reg [(none, (.new [.slice none 0 0, .int .i64 0, .int .i64 0], .some 2))] []) (.seq
  (.reg [(none, (.new [.slice none 0 0, .int .i64 0, .int .i64 0], .some 3))] []) (.seq
  (.reg [(none, (.mov (.tmp 0), .some 7)), (none, (.call (.func 58) [.tmp 7], .some 8)), (none, (.mov (.tmp 8), .some 6)), (none, (.ext (.tmp 6) 0, .some 9)), (none, (.ext (.tmp 6) 1, .some 10)), (none, (.mov (.tmp 9), .some 4)), (none, (.mov (.tmp 10), .some 5))] []) (.seq (.block 0 (.seq
  (.reg [(none, (.mov (.tmp 4), .some 12)), (none, (.mov (.tmp 12), .some 11))] []) (.cond (.tmp 11) (.seq
  (.reg [(none, (.mov (.tmp 5), .some 13)), (none, (.fadr 2 (.tmp 3), .some 14)), (none, (.store 1 (.tmp 14) (.tmp 13), none))] [])
  (.reg [(none, (.mov (.tmp 0), .some 15)), (none, (.call (.func 59) [.tmp 15], .some 16)), (none, (.fadr 1 (.tmp 3), .some 17)), (none, (.store 1 (.tmp 17) (.tmp 16), none))] [])) (.seq
  (.reg [(none, (.mov (.tmp 5), .some 19)), (none, (.bin .gtr (.tmp 19) (.const (.int .i64 0)), .some 20)), (none, (.mov (.tmp 20), .some 18))] []) (.cond (.tmp 18)
  (.reg [(none, (.mov (.tmp 0), .some 21)), (none, (.mov (.tmp 5), .some 22)), (none, (.call (.func 93) [.tmp 21, .tmp 22], .some 23)), (none, (.fadr 0 (.tmp 3), .some 24)), (none, (.store 1 (.tmp 24) (.tmp 23), none))] []) .skip))))) (.seq (.seq
  (.reg [(none, (.mov (.tmp 0), .some 25)), (none, (.call (.func 60) [.tmp 25], .some 26)), (none, (.un .not (.tmp 26), .some 27))] []) (.cond (.tmp 27) (.seq
  (.reg [(none, (.build [.slice none 0 0, .int .i64 0, .int .i64 0] [], .some 28)), (none, (.store 3 (.tmp 2) (.tmp 28), none))] []) .ret) .skip)) (.seq
  (.reg [(none, (.load (.some 3) (.tmp 3), .some 29)), (none, (.store 3 (.tmp 2) (.tmp 29), none))] []) .ret)))))
theorem b54 : Try.f54.body.bind (compC Try.prog) = some c54 := by kernel_rfl
theorem r54 : compR Try.prog Try.f54 = .some [.cell 2 (.some 3)] := by kernel_rfl
theorem n54 : (Try.f54.name == "runtime.NumGoroutine") = false := by kernel_rfl
def c56 : C := .seq
  (.reg [(none, (.new [.int .i64 0, .int .i64 0], .some 2))] []) (.seq (.seq
  (.reg [(none, (.mov (.tmp 0), .some 3)), (none, (.eqp .false (.tmp 3) (.const (.pointer none)), .some 4))] []) (.cond (.tmp 4) (.seq
  (.reg [(none, (.call (.func 71) [.const (.int .i64 19), .const (.int .i64 0)], .some 5)), (none, (.store 2 (.tmp 2) (.tmp 5), none))] []) .ret) .skip)) (.seq
  (.reg [(none, (.mov (.tmp 0), .some 6)), (none, (.nilc (.tmp 6), .some 7)), (none, (.fadr 2 (.tmp 7), .some 8)), (none, (.load (.some 2) (.tmp 8), .some 9)), (none, (.store 2 (.tmp 2) (.tmp 9), none))] []) .ret))
theorem b56 : Try.f56.body.bind (compC Try.prog) = some c56 := by kernel_rfl
theorem r56 : compR Try.prog Try.f56 = .some [.cell 2 (.some 2)] := by kernel_rfl
theorem n56 : (Try.f56.name == "runtime.NumGoroutine") = false := by kernel_rfl
def c72 : C := .seq
  (.reg [(none, (.mov (.const (.slice none 0 0)), .some 6))] []) (.seq (.seq
  (.reg [(none, (.mov (.tmp 2), .some 7)), (none, (.mov (.const (.int .i64 0)), .some 8))] []) (.block 0 (.loop (.seq
  (.reg [(none, (.bin .lss (.tmp 8) (.tmp 7), .some 9))] []) (.seq (.cond (.tmp 9) .skip (.exit 0)) (.seq (.block 1
  (.reg [(none, (.mov (.tmp 0), .some 10)), (none, (.mov (.tmp 0), .some 11)), (none, (.mov (.tmp 0), .some 12)), (none, (.len .false (.tmp 12), .some 13)), (none, (.mov (.tmp 1), .some 14)), (none, (.bin .sub (.tmp 13) (.tmp 14), .some 15)), (none, (.iadr 1 (.tmp 11) (.tmp 15), .some 16)), (none, (.load none (.tmp 16), .some 17)), (none, (.bsl 1 [.tmp 17], .some 18)), (none, (.app 1 1 (.tmp 10) (.tmp 18), .some 19)), (none, (.mov (.tmp 19), .some 0))] []))
  (.reg [(none, (.bin .add (.tmp 8) (.const (.int .i64 1)), .some 20)), (none, (.mov (.tmp 20), .some 8))] []))))))) (.seq
  (.reg [(none, (.mov (.tmp 0), .some 21)), (none, (.mov (.tmp 21), .some 6))] []) .ret))
theorem b72 : Try.f72.body.bind (compC Try.prog) = some c72 := by kernel_rfl
theorem r72 : compR Try.prog Try.f72 = .some [.tmp 6] := by kernel_rfl
theorem n72 : (Try.f72.name == "runtime.NumGoroutine") = false := by kernel_rfl
def c73 : C := .seq
  (.reg [(none, (.new [.int .i64 0, .int .i64 0], .some 4))] []) (.seq
  (.reg [(none, (.build [.int .i64 0, .int .i64 0] [], .some 6)), (none, (.new [.int .i64 0, .int .i64 0], .some 5)), (none, (.store 2 (.tmp 5) (.tmp 6), none))] []) (.seq (.seq
  (.reg [(none, (.mov (.tmp 0), .some 7)), (none, (.bin .neq (.tmp 7) (.const (.int .i64 0)), .some 8))] []) (.cond (.tmp 8)
  (.reg [(none, (.mov (.tmp 0), .some 9)), (none, (.mov (.tmp 1), .some 10)), (none, (.fadr 0 (.tmp 5), .some 11)), (none, (.store 1 (.tmp 11) (.tmp 9), none)), (none, (.fadr 1 (.tmp 5), .some 12)), (none, (.store 1 (.tmp 12) (.tmp 10), none))] []) .skip)) (.seq
  (.reg [(none, (.load (.some 2) (.tmp 5), .some 13)), (none, (.store 2 (.tmp 4) (.tmp 13), none))] []) .ret)))
theorem b73 : Try.f73.body.bind (compC Try.prog) = some c73 := by kernel_rfl
theorem r73 : compR Try.prog Try.f73 = .some [.cell 4 (.some 2)] := by kernel_rfl
theorem n73 : (Try.f73.name == "runtime.NumGoroutine") = false := by kernel_rfl
def c93 : C := .seq
  (.reg [(none, (.mov (.const (.slice none 0 0)), .some 4))] []) (.seq (.seq
  (.reg [(none, (.mov (.tmp 0), .some 5)), (none, (.mov (.tmp 1), .some 6)), (none, (.call (.func 115) [.tmp 5, .tmp 6], .some 7)), (none, (.un .not (.tmp 7), .some 8))] []) (.cond (.tmp 8) (.seq
  (.reg [(none, (.mov (.const (.slice none 0 0)), .some 4))] []) .ret) .skip)) (.seq
  (.reg [(none, (.bsl 1 [], .some 9)), (none, (.mov (.tmp 0), .some 10)), (none, (.nilc (.tmp 10), .some 11)), (none, (.fadr 0 (.tmp 11), .some 12)), (none, (.load none (.tmp 12), .some 13)), (none, (.mov (.tmp 0), .some 14)), (none, (.nilc (.tmp 14), .some 15)), (none, (.fadr 1 (.tmp 15), .some 16)), (none, (.load none (.tmp 16), .some 17)), (none, (.mov (.tmp 1), .some 18)), (none, (.bin .sub (.tmp 17) (.tmp 18), .some 19)), (none, (.mov (.tmp 0), .some 20)), (none, (.nilc (.tmp 20), .some 21)), (none, (.fadr 1 (.tmp 21), .some 22)), (none, (.load none (.tmp 22), .some 23)), (none, (.slice 1 (.tmp 13) (.some (.tmp 19)) (.some (.tmp 23)) none, .some 24)), (none, (.app 1 1 (.tmp 9) (.tmp 24), .some 25)), (none, (.mov (.tmp 25), .some 4))] [(4, 8), (4, 14), (8, 14)]) .ret))
theorem b93 : Try.f93.body.bind (compC Try.prog) = some c93 := by kernel_rfl
theorem r93 : compR Try.prog Try.f93 = .some [.tmp 4] := by kernel_rfl
theorem n93 : (Try.f93.name == "runtime.NumGoroutine") = false := by kernel_rfl
def c99 : C := .seq
  (.reg [(none, (.mov (.const (.int .u64 0)), .some 2))] []) (.scope (.seq
  (.reg [(none, (.mov (.const (.int .u64 0)), .some 3))] []) (.seq
  (.reg [(none, (.mov (.const (.int .u8 0)), .some 4))] []) (.seq
  (.reg [(none, (.mov (.tmp 0), .some 7)), (none, (.call (.func 57) [.tmp 7], .some 8)), (none, (.mov (.const (.int .i64 0)), .some 5)), (none, (.mov (.tmp 8), .some 6))] []) (.seq (.label 0) (.seq
  (.reg [(none, (.mov (.tmp 0), .some 9)), (none, (.call (.func 117) [.tmp 9], .some 10)), (none, (.mov (.tmp 10), .some 4))] []) (.seq (.block 0 (.seq
  (.reg [(none, (.mov (.tmp 0), .some 12)), (none, (.call (.func 60) [.tmp 12], .some 13)), (none, (.un .not (.tmp 13), .some 14)), (none, (.mov (.tmp 14), .some 11))] []) (.cond (.tmp 11) (.seq
  (.reg [(none, (.mov (.const (.int .u64 0)), .some 2))] []) .ret) (.seq
  (.reg [(none, (.mov (.tmp 5), .some 16)), (none, (.bin .eql (.tmp 16) (.const (.int .i64 63)), .some 17)), (none, (.mov (.tmp 17), .some 18)), (.some (18, .true), (.mov (.tmp 4), .some 19)), (.some (18, .true), (.bin .gtr (.tmp 19) (.const (.int .u8 1)), .some 20)), (none, (.pick (.tmp 18) (.tmp 20) (.const (.bool .false)), .some 21)), (none, (.mov (.tmp 21), .some 15))] []) (.cond (.tmp 15) (.seq
  (.reg [(none, (.mov (.tmp 0), .some 22)), (none, (.mov (.tmp 0), .some 23)), (none, (.call (.func 57) [.tmp 23], .some 24)), (none, (.bin .sub (.tmp 24) (.const (.int .i64 1)), .some 25)), (none, (.call (.func 92) [.tmp 22, .const (.int .i64 5), .tmp 25], .some 26))] []) (.seq
  (.reg [(none, (.mov (.const (.int .u64 0)), .some 2))] []) .ret)) (.seq
  (.reg [(none, (.mov (.tmp 4), .some 28)), (none, (.bin .eql (.tmp 28) (.const (.int .u8 0)), .some 29)), (none, (.mov (.tmp 29), .some 30)), (.some (30, .true), (.mov (.tmp 0), .some 31)), (.some (30, .true), (.call (.func 57) [.tmp 31], .some 32)), (.some (30, .true), (.bin .sub (.tmp 32) (.const (.int .i64 1)), .some 33)), (.some (30, .true), (.mov (.tmp 6), .some 34)), (.some (30, .true), (.bin .gtr (.tmp 33) (.tmp 34), .some 35)), (none, (.pick (.tmp 30) (.tmp 35) (.const (.bool .false)), .some 36)), (none, (.mov (.tmp 36), .some 27))] []) (.cond (.tmp 27) (.seq
  (.reg [(none, (.mov (.tmp 0), .some 37)), (none, (.mov (.tmp 0), .some 38)), (none, (.call (.func 57) [.tmp 38], .some 39)), (none, (.bin .sub (.tmp 39) (.const (.int .i64 1)), .some 40)), (none, (.call (.func 92) [.tmp 37, .const (.int .i64 4), .tmp 40], .some 41))] []) (.seq
  (.reg [(none, (.mov (.const (.int .u64 0)), .some 2))] []) .ret)) .skip))))))) (.seq
  (.reg [(none, (.mov (.tmp 3), .some 42)), (none, (.mov (.tmp 4), .some 43)), (none, (.bin .rem (.tmp 43) (.const (.int .u8 128)), .some 44)), (none, (.cvt .u64 (.tmp 44), .some 45)), (none, (.mov (.tmp 5), .some 46)), (none, (.bin .shl (.tmp 45) (.tmp 46), .some 47)), (none, (.bin .or (.tmp 42) (.tmp 47), .some 48)), (none, (.mov (.tmp 48), .some 3))] []) (.seq
  (.reg [(none, (.mov (.tmp 5), .some 49)), (none, (.bin .add (.tmp 49) (.const (.int .i64 7)), .some 50)), (none, (.mov (.tmp 50), .some 5))] []) (.seq (.seq
  (.reg [(none, (.mov (.tmp 4), .some 51)), (none, (.bin .geq (.tmp 51) (.const (.int .u8 128)), .some 52))] []) (.cond (.tmp 52) (.goto 0) .skip)) (.seq
  (.reg [(none, (.mov (.tmp 3), .some 53)), (none, (.mov (.tmp 53), .some 2))] []) .ret)))))))))))
theorem b99 : Try.f99.body.bind (compC Try.prog) = some c99 := by kernel_rfl
theorem r99 : compR Try.prog Try.f99 = .some [.tmp 2] := by kernel_rfl
theorem n99 : (Try.f99.name == "runtime.NumGoroutine") = false := by kernel_rfl
end Go.Proofs.Ytpjkmidjjodplaa
