/-
  The codes of the seat's functions over abstract values, each shown to be its function's own (by program: wip/tools/codes.py).
-/
import Derived.Test.YtpjkmidjjodplaaA2
import Derived.Test.YtpjkmidjjodplaaProg
import Derived.KernelRfl
namespace Go.Proofs.Ytpjkmidjjodplaa
def c8 : C := .seq
  (.reg [(none, (.mov (.const (.bool .false)), .some 4))] []) (.seq (.seq
  (.reg [(none, (.mov (.tmp 0), .some 13)), (none, (.len .false (.tmp 13), .some 14)), (none, (.bin .gtr (.tmp 14) (.const (.int .i64 500)), .some 15))] []) (.cond (.tmp 15) (.seq
  (.reg [(none, (.call (.func 18) [], .some 16)), (none, (.mov (.tmp 16), .some 4))] []) .ret) .skip)) (.seq
  (.reg [(none, (.mov (.tmp 1), .some 17)), (none, (.mx .false (.tmp 17) (.const (.int .i64 5000)), .some 18)), (none, (.mov (.tmp 18), .some 1))] []) (.seq
  (.reg [(none, (.mov (.tmp 0), .some 20)), (none, (.mov (.tmp 1), .some 21)), (none, (.call (.func 47) [.tmp 20, .tmp 21], .some 22)), (none, (.mov (.tmp 22), .some 19)), (none, (.ext (.tmp 19) 0, .some 23)), (none, (.ext (.tmp 19) 1, .some 24)), (none, (.new [.int .i64 0, .int .i64 0], .some 6)), (none, (.mov (.tmp 23), .some 5)), (none, (.store 2 (.tmp 6) (.tmp 24), none))] []) (.seq
  (.reg [(none, (.mov (.tmp 0), .some 26)), (none, (.mov (.tmp 1), .some 27)), (none, (.call (.func 48) [.tmp 26, .tmp 27], .some 28)), (none, (.mov (.tmp 28), .some 25)), (none, (.ext (.tmp 25) 0, .some 29)), (none, (.ext (.tmp 25) 1, .some 30)), (none, (.new [.int .i64 0, .int .i64 0], .some 8)), (none, (.mov (.tmp 29), .some 7)), (none, (.store 2 (.tmp 8) (.tmp 30), none))] []) (.seq
  (.reg [(none, (.mov (.tmp 0), .some 32)), (none, (.call (.func 49) [.tmp 32], .some 33)), (none, (.mov (.tmp 33), .some 31)), (none, (.ext (.tmp 31) 0, .some 34)), (none, (.ext (.tmp 31) 1, .some 35)), (none, (.new [.int .i64 0, .int .i64 0], .some 10)), (none, (.mov (.tmp 34), .some 9)), (none, (.store 2 (.tmp 10) (.tmp 35), none))] []) (.seq
  (.reg [(none, (.mov (.tmp 0), .some 37)), (none, (.call (.func 50) [.tmp 37], .some 38)), (none, (.mov (.tmp 38), .some 36)), (none, (.ext (.tmp 36) 0, .some 39)), (none, (.ext (.tmp 36) 1, .some 40)), (none, (.new [.int .i64 0, .int .i64 0], .some 12)), (none, (.mov (.tmp 39), .some 11)), (none, (.store 2 (.tmp 12) (.tmp 40), none))] []) (.seq
  (.reg [(none, (.mov (.tmp 5), .some 41)), (none, (.mov (.tmp 7), .some 42)), (none, (.call (.func 21) [.tmp 41, .tmp 42], .some 43)), (none, (.mov (.tmp 43), .some 44)), (.some (44, .true), (.load (.some 2) (.tmp 6), .some 45)), (.some (44, .true), (.load (.some 2) (.tmp 8), .some 46)), (.some (44, .true), (.eqa .false 2 (.tmp 45) (.tmp 46), .some 47)), (none, (.pick (.tmp 44) (.tmp 47) (.const (.bool .false)), .some 48)), (none, (.mov (.tmp 48), .some 49)), (.some (49, .true), (.mov (.tmp 5), .some 50)), (.some (49, .true), (.len .false (.tmp 50), .some 51)), (.some (49, .true), (.mov (.tmp 1), .some 52)), (.some (49, .true), (.mx .true (.tmp 52) (.const (.int .i64 0)), .some 53)), (.some (49, .true), (.bin .leq (.tmp 51) (.tmp 53), .some 54)), (none, (.pick (.tmp 49) (.tmp 54) (.const (.bool .false)), .some 55)), (none, (.mov (.tmp 55), .some 56)), (.some (56, .true), (.mov (.tmp 9), .some 57)), (.some (56, .true), (.mov (.tmp 11), .some 58)), (.some (56, .true), (.bin .eql (.tmp 57) (.tmp 58), .some 59)), (none, (.pick (.tmp 56) (.tmp 59) (.const (.bool .false)), .some 60)), (none, (.mov (.tmp 60), .some 61)), (.some (61, .true), (.load (.some 2) (.tmp 10), .some 62)), (.some (61, .true), (.load (.some 2) (.tmp 12), .some 63)), (.some (61, .true), (.eqa .false 2 (.tmp 62) (.tmp 63), .some 64)), (none, (.pick (.tmp 61) (.tmp 64) (.const (.bool .false)), .some 65)), (none, (.mov (.tmp 65), .some 66)), (.some (66, .true), (.fadr 0 (.tmp 6), .some 67)), (.some (66, .true), (.load none (.tmp 67), .some 68)), (.some (66, .true), (.bin .neq (.tmp 68) (.const (.int .i64 0)), .some 69)), (.some (66, .true), (.mov (.tmp 69), .some 70)), (.some (70, .false), (.mov (.tmp 9), .some 71)), (.some (70, .false), (.mov (.tmp 5), .some 72)), (.some (70, .false), (.len .false (.tmp 72), .some 73)), (.some (70, .false), (.bin .eql (.tmp 71) (.tmp 73), .some 74)), (.some (66, .true), (.pick (.tmp 70) (.const (.bool .true)) (.tmp 74), .some 75)), (none, (.pick (.tmp 66) (.tmp 75) (.const (.bool .false)), .some 76)), (none, (.mov (.tmp 76), .some 77)), (.some (77, .true), (.call (.func 18) [], .some 78)), (none, (.pick (.tmp 77) (.tmp 78) (.const (.bool .false)), .some 79)), (none, (.mov (.tmp 79), .some 4))] []) .ret)))))))
theorem b8 : Try.f8.body.bind (compC Try.prog) = some c8 := by kernel_rfl
theorem r8 : compR Try.prog Try.f8 = .some [.tmp 4] := by kernel_rfl
theorem n8 : (Try.f8.name == "runtime.NumGoroutine") = false := by kernel_rfl
def c25 : C := .seq
  (.reg [(none, (.box (.tmp 0), .some 1)), (none, (.mov (.const (.bool .false)), .some 2))] []) (.seq
  (.reg [(none, (.fadr 1 (.tmp 1), .some 3)), (none, (.load none (.tmp 3), .some 4)), (none, (.bin .eql (.tmp 4) (.const (.int .i64 0)), .some 5)), (none, (.mov (.tmp 5), .some 6)), (.some (6, .true), (.fadr 2 (.tmp 1), .some 7)), (.some (6, .true), (.load none (.tmp 7), .some 8)), (.some (6, .true), (.bin .eql (.tmp 8) (.const (.int .i64 0)), .some 9)), (none, (.pick (.tmp 6) (.tmp 9) (.const (.bool .false)), .some 10)), (none, (.mov (.tmp 10), .some 11)), (.some (11, .true), (.fadr 0 (.tmp 1), .some 12)), (.some (11, .true), (.load none (.tmp 12), .some 13)), (.some (11, .true), (.len .false (.tmp 13), .some 14)), (.some (11, .true), (.bin .geq (.tmp 14) (.const (.int .i64 1)), .some 15)), (none, (.pick (.tmp 11) (.tmp 15) (.const (.bool .false)), .some 16)), (none, (.mov (.tmp 16), .some 17)), (.some (17, .true), (.fadr 0 (.tmp 1), .some 18)), (.some (17, .true), (.load none (.tmp 18), .some 19)), (.some (17, .true), (.len .false (.tmp 19), .some 20)), (.some (17, .true), (.bin .leq (.tmp 20) (.const (.int .i64 1048576)), .some 21)), (none, (.pick (.tmp 17) (.tmp 21) (.const (.bool .false)), .some 22)), (none, (.mov (.tmp 22), .some 2))] []) .ret)
theorem b25 : Try.f25.body.bind (compC Try.prog) = some c25 := by kernel_rfl
theorem r25 : compR Try.prog Try.f25 = .some [.tmp 2] := by kernel_rfl
theorem n25 : (Try.f25.name == "runtime.NumGoroutine") = false := by kernel_rfl
def c38 : C := .seq
  (.reg [(none, (.box (.tmp 0), .some 1)), (none, (.mov (.const (.bool .false)), .some 2))] []) (.seq
  (.reg [(none, (.fadr 0 (.tmp 1), .some 4)), (none, (.load none (.tmp 4), .some 5)), (none, (.len .false (.tmp 5), .some 6)), (none, (.mov (.tmp 6), .some 3))] []) (.seq (.block 0 (.seq (.block 3 (.block 2 (.seq (.block 1 (.seq (.seq (.seq
  (.reg [(none, (.fadr 1 (.tmp 1), .some 8)), (none, (.load none (.tmp 8), .some 9)), (none, (.bin .eql (.tmp 9) (.const (.int .i64 0)), .some 10)), (none, (.mov (.tmp 10), .some 7))] []) (.cond (.tmp 7) (.exit 1) .skip)) (.seq (.seq
  (.reg [(none, (.mov (.tmp 3), .some 12)), (none, (.bin .gtr (.tmp 12) (.const (.int .i64 0)), .some 13)), (none, (.mov (.tmp 13), .some 11))] []) (.cond (.tmp 11) (.exit 2) .skip)) (.seq
  (.reg [(none, (.fadr 1 (.tmp 1), .some 15)), (none, (.load none (.tmp 15), .some 16)), (none, (.bin .lss (.tmp 16) (.const (.int .i64 0)), .some 17)), (none, (.mov (.tmp 17), .some 18)), (.some (18, .false), (.fadr 1 (.tmp 1), .some 19)), (.some (18, .false), (.load none (.tmp 19), .some 20)), (.some (18, .false), (.bin .gtr (.tmp 20) (.const (.int .i64 65536)), .some 21)), (none, (.pick (.tmp 18) (.const (.bool .true)) (.tmp 21), .some 22)), (none, (.mov (.tmp 22), .some 14))] []) (.cond (.tmp 14) (.exit 3) .skip)))) (.exit 0))) (.seq (.seq
  (.reg [(none, (.fadr 2 (.tmp 1), .some 23)), (none, (.load none (.tmp 23), .some 24)), (none, (.bin .eql (.tmp 24) (.const (.int .i64 0)), .some 25)), (none, (.mov (.tmp 25), .some 26)), (.some (26, .true), (.mov (.tmp 3), .some 27)), (.some (26, .true), (.bin .geq (.tmp 27) (.const (.int .i64 1)), .some 28)), (none, (.pick (.tmp 26) (.tmp 28) (.const (.bool .false)), .some 29)), (none, (.mov (.tmp 29), .some 30)), (.some (30, .true), (.mov (.tmp 3), .some 31)), (.some (30, .true), (.bin .leq (.tmp 31) (.const (.int .i64 1048576)), .some 32)), (none, (.pick (.tmp 30) (.tmp 32) (.const (.bool .false)), .some 33)), (none, (.mov (.tmp 33), .some 2))] []) .ret) (.exit 0))))) (.seq (.seq
  (.reg [(none, (.mov (.const (.bool .false)), .some 2))] []) .ret) (.exit 0)))) (.seq
  (.reg [(none, (.fadr 2 (.tmp 1), .some 34)), (none, (.load none (.tmp 34), .some 35)), (none, (.bin .geq (.tmp 35) (.const (.int .i64 4)), .some 36)), (none, (.mov (.tmp 36), .some 37)), (.some (37, .true), (.fadr 2 (.tmp 1), .some 38)), (.some (37, .true), (.load none (.tmp 38), .some 39)), (.some (37, .true), (.bin .leq (.tmp 39) (.const (.int .i64 1048576)), .some 40)), (none, (.pick (.tmp 37) (.tmp 40) (.const (.bool .false)), .some 41)), (none, (.mov (.tmp 41), .some 2))] []) .ret)))
theorem b38 : Try.f38.body.bind (compC Try.prog) = some c38 := by kernel_rfl
theorem r38 : compR Try.prog Try.f38 = .some [.tmp 2] := by kernel_rfl
theorem n38 : (Try.f38.name == "runtime.NumGoroutine") = false := by kernel_rfl
def c39 : C := .seq
  (.reg [(none, (.box (.tmp 0), .some 1)), (none, (.mov (.const (.bool .false)), .some 2))] []) (.seq
  (.reg [(none, (.load (.some 3) (.tmp 1), .some 3)), (none, (.call (.func 25) [.tmp 3], .some 4)), (none, (.mov (.tmp 4), .some 5)), (.some (5, .false), (.load (.some 3) (.tmp 1), .some 6)), (.some (5, .false), (.call (.func 26) [.tmp 6], .some 7)), (none, (.pick (.tmp 5) (.const (.bool .true)) (.tmp 7), .some 8)), (none, (.mov (.tmp 8), .some 2))] []) .ret)
theorem b39 : Try.f39.body.bind (compC Try.prog) = some c39 := by kernel_rfl
theorem r39 : compR Try.prog Try.f39 = .some [.tmp 2] := by kernel_rfl
theorem n39 : (Try.f39.name == "runtime.NumGoroutine") = false := by kernel_rfl
def c42 : C := .seq
  (.reg [(none, (.mov (.const (.slice none 0 0)), .some 2))] []) (.seq
  (.reg [(none, (.mov (.const (.slice none 0 0)), .some 3))] []) (.seq (.seq
  (.reg [(none, (.mov (.const (.int .i64 0)), .some 4))] []) (.block 0 (.loop (.seq (.seq
  (.reg [(none, (.mov (.tmp 4), .some 5)), (none, (.mov (.tmp 0), .some 6)), (none, (.len .false (.tmp 6), .some 7)), (none, (.bin .lss (.tmp 5) (.tmp 7), .some 8))] []) (.cond (.tmp 8) .skip (.exit 0))) (.seq (.block 1 (.seq
  (.reg [(none, (.mov (.tmp 0), .some 11)), (none, (.mov (.tmp 4), .some 12)), (none, (.iadr 3 (.tmp 11) (.tmp 12), .some 13)), (none, (.load (.some 3) (.tmp 13), .some 14)), (none, (.call (.func 25) [.tmp 14], .some 15))] []) (.cond (.tmp 15) (.seq
  (.reg [(none, (.mov (.tmp 3), .some 16)), (none, (.mov (.tmp 0), .some 17)), (none, (.mov (.tmp 4), .some 18)), (none, (.iadr 3 (.tmp 17) (.tmp 18), .some 19)), (none, (.fadr 0 (.tmp 19), .some 20)), (none, (.load none (.tmp 20), .some 21)), (none, (.len .false (.tmp 21), .some 22)), (none, (.bin .mul (.const (.int .i64 2)) (.tmp 22), .some 23)), (none, (.bin .sub (.tmp 23) (.const (.int .i64 2)), .some 24)), (none, (.cvt .u64 (.tmp 24), .some 25)), (none, (.call (.func 33) [.tmp 25], .some 26)), (none, (.app 1 1 (.tmp 16) (.tmp 26), .some 27)), (none, (.mov (.tmp 27), .some 3))] [])
  (.reg [(none, (.mov (.tmp 3), .some 28)), (none, (.mov (.tmp 0), .some 29)), (none, (.mov (.tmp 4), .some 30)), (none, (.iadr 3 (.tmp 29) (.tmp 30), .some 31)), (none, (.fadr 0 (.tmp 31), .some 32)), (none, (.load none (.tmp 32), .some 33)), (none, (.app 1 1 (.tmp 28) (.tmp 33), .some 34)), (none, (.mov (.tmp 34), .some 3))] [])) (.seq
  (.reg [(none, (.mov (.tmp 3), .some 35)), (none, (.mov (.tmp 0), .some 36)), (none, (.mov (.tmp 4), .some 37)), (none, (.iadr 3 (.tmp 36) (.tmp 37), .some 38)), (none, (.fadr 2 (.tmp 38), .some 39)), (none, (.load none (.tmp 39), .some 40)), (none, (.bin .mul (.const (.int .i64 2)) (.tmp 40), .some 41)), (none, (.bin .sub (.tmp 41) (.const (.int .i64 7)), .some 42)), (none, (.cvt .u64 (.tmp 42), .some 43)), (none, (.call (.func 33) [.tmp 43], .some 44)), (none, (.app 1 1 (.tmp 35) (.tmp 44), .some 45)), (none, (.mov (.tmp 45), .some 3))] [])
  (.reg [(none, (.mov (.tmp 3), .some 46)), (none, (.mov (.tmp 0), .some 47)), (none, (.mov (.tmp 4), .some 48)), (none, (.iadr 3 (.tmp 47) (.tmp 48), .some 49)), (none, (.fadr 1 (.tmp 49), .some 50)), (none, (.load none (.tmp 50), .some 51)), (none, (.bin .sub (.tmp 51) (.const (.int .i64 1)), .some 52)), (none, (.cvt .u64 (.tmp 52), .some 53)), (none, (.call (.func 33) [.tmp 53], .some 54)), (none, (.app 1 1 (.tmp 46) (.tmp 54), .some 55)), (none, (.mov (.tmp 55), .some 3))] [])))))
  (.reg [(none, (.mov (.tmp 4), .some 9)), (none, (.bin .add (.tmp 9) (.const (.int .i64 1)), .some 10)), (none, (.mov (.tmp 10), .some 4))] [])))))) (.seq
  (.reg [(none, (.mov (.tmp 3), .some 56)), (none, (.mov (.tmp 56), .some 2))] []) .ret)))
theorem b42 : Try.f42.body.bind (compC Try.prog) = some c42 := by kernel_rfl
theorem r42 : compR Try.prog Try.f42 = .some [.tmp 2] := by kernel_rfl
theorem n42 : (Try.f42.name == "runtime.NumGoroutine") = false := by kernel_rfl
def c48 : C := .seq
  (.reg [(none, (.mov (.const (.slice none 0 0)), .some 4)), (none, (.new [.int .i64 0, .int .i64 0], .some 5))] []) (.seq
  (.reg [(none, (.mov (.tmp 0), .some 12)), (none, (.build [.slice none 0 0, .int .i64 0, .int .i64 0, .int .i64 0] [(0, (1, .tmp 12))], .some 13)), (none, (.new [.slice none 0 0, .int .i64 0, .int .i64 0, .int .i64 0], .some 6)), (none, (.store 4 (.tmp 6) (.tmp 13), none))] []) (.seq
  (.reg [(none, (.mov (.const (.slice none 0 0)), .some 7))] []) (.seq (.block 0 (.loop (.seq (.seq
  (.reg [(none, (.fadr 1 (.tmp 6), .some 14)), (none, (.load none (.tmp 14), .some 15)), (none, (.mov (.tmp 0), .some 16)), (none, (.len .false (.tmp 16), .some 17)), (none, (.bin .lss (.tmp 15) (.tmp 17), .some 18))] []) (.cond (.tmp 18) .skip (.exit 0))) (.block 1 (.seq
  (.reg [(none, (.load (.some 4) (.tmp 6), .some 20)), (none, (.call (.func 95) [.tmp 20], .some 21)), (none, (.mov (.tmp 21), .some 19)), (none, (.ext (.tmp 19) 0, .some 22)), (none, (.ext (.tmp 19) 1, .some 23)), (none, (.new [.slice none 0 0, .int .i64 0, .int .i64 0, .int .i64 0], .some 8)), (none, (.store 4 (.tmp 8) (.tmp 22), none)), (none, (.mov (.tmp 23), .some 9))] []) (.seq (.seq
  (.reg [(none, (.fadr 2 (.tmp 8), .some 24)), (none, (.fadr 0 (.tmp 24), .some 25)), (none, (.load none (.tmp 25), .some 26)), (none, (.bin .eql (.tmp 26) (.const (.int .i64 0)), .some 27)), (none, (.mov (.tmp 27), .some 28)), (.some (28, .true), (.mov (.tmp 9), .some 29)), (.some (28, .true), (.call (.func 96) [.tmp 29], .some 30)), (.some (28, .true), (.bin .gtr (.tmp 30) (.const (.int .i64 0)), .some 31)), (none, (.pick (.tmp 28) (.tmp 31) (.const (.bool .false)), .some 32)), (none, (.mov (.tmp 32), .some 33)), (.some (33, .true), (.mov (.tmp 7), .some 34)), (.some (33, .true), (.len .false (.tmp 34), .some 35)), (.some (33, .true), (.mov (.tmp 9), .some 36)), (.some (33, .true), (.call (.func 96) [.tmp 36], .some 37)), (.some (33, .true), (.bin .add (.tmp 35) (.tmp 37), .some 38)), (.some (33, .true), (.mov (.tmp 1), .some 39)), (.some (33, .true), (.bin .gtr (.tmp 38) (.tmp 39), .some 40)), (none, (.pick (.tmp 33) (.tmp 40) (.const (.bool .false)), .some 41))] []) (.cond (.tmp 41) (.seq
  (.reg [(none, (.fadr 1 (.tmp 6), .some 42)), (none, (.load none (.tmp 42), .some 43)), (none, (.call (.func 73) [.const (.int .i64 11), .tmp 43], .some 44)), (none, (.mov (.const (.slice none 0 0)), .some 4)), (none, (.store 2 (.tmp 5) (.tmp 44), none))] []) .ret) .skip)) (.seq
  (.reg [(none, (.load (.some 4) (.tmp 6), .some 46)), (none, (.call (.func 55) [.tmp 46], .some 47)), (none, (.mov (.tmp 47), .some 45)), (none, (.ext (.tmp 45) 0, .some 48)), (none, (.ext (.tmp 45) 1, .some 49)), (none, (.new [.slice none 0 0, .int .i64 0, .int .i64 0, .int .i64 0], .some 10)), (none, (.new [.slice none 0 0, .int .i64 0, .int .i64 0], .some 11)), (none, (.store 4 (.tmp 10) (.tmp 48), none)), (none, (.store 3 (.tmp 11) (.tmp 49), none))] []) (.seq (.seq
  (.reg [(none, (.fadr 2 (.tmp 10), .some 50)), (none, (.fadr 0 (.tmp 50), .some 51)), (none, (.load none (.tmp 51), .some 52)), (none, (.bin .neq (.tmp 52) (.const (.int .i64 0)), .some 53))] []) (.cond (.tmp 53) (.seq
  (.reg [(none, (.fadr 2 (.tmp 10), .some 54)), (none, (.load (.some 2) (.tmp 54), .some 55)), (none, (.mov (.const (.slice none 0 0)), .some 4)), (none, (.store 2 (.tmp 5) (.tmp 55), none))] []) .ret) .skip)) (.seq (.seq
  (.reg [(none, (.fadr 1 (.tmp 11), .some 56)), (none, (.load none (.tmp 56), .some 57)), (none, (.mov (.tmp 7), .some 58)), (none, (.len .false (.tmp 58), .some 59)), (none, (.bin .gtr (.tmp 57) (.tmp 59), .some 60))] []) (.cond (.tmp 60) (.seq
  (.reg [(none, (.fadr 1 (.tmp 8), .some 61)), (none, (.load none (.tmp 61), .some 62)), (none, (.call (.func 73) [.const (.int .i64 10), .tmp 62], .some 63)), (none, (.mov (.const (.slice none 0 0)), .some 4)), (none, (.store 2 (.tmp 5) (.tmp 63), none))] []) .ret) .skip)) (.seq
  (.reg [(none, (.mov (.tmp 7), .some 64)), (none, (.load (.some 3) (.tmp 11), .some 65)), (none, (.call (.func 74) [.tmp 64, .tmp 65], .some 66)), (none, (.mov (.tmp 66), .some 7))] [])
  (.reg [(none, (.load (.some 4) (.tmp 10), .some 67)), (none, (.store 4 (.tmp 6) (.tmp 67), none))] []))))))))))) (.seq
  (.reg [(none, (.mov (.tmp 7), .some 68)), (none, (.build [.int .i64 0, .int .i64 0] [], .some 69)), (none, (.mov (.tmp 68), .some 4)), (none, (.store 2 (.tmp 5) (.tmp 69), none))] []) .ret))))
theorem b48 : Try.f48.body.bind (compC Try.prog) = some c48 := by kernel_rfl
theorem r48 : compR Try.prog Try.f48 = .some [.tmp 4, .cell 5 (.some 2)] := by kernel_rfl
theorem n48 : (Try.f48.name == "runtime.NumGoroutine") = false := by kernel_rfl
def c59 : C := .seq
  (.reg [(none, (.mov (.const (.int .i64 0)), .some 2))] []) (.seq
  (.reg [(none, (.mov (.tmp 0), .some 5)), (none, (.call (.func 57) [.tmp 5], .some 6)), (none, (.mov (.tmp 6), .some 3))] []) (.seq
  (.reg [(none, (.mov (.tmp 0), .some 7)), (none, (.call (.func 99) [.tmp 7], .some 8)), (none, (.mov (.tmp 8), .some 4))] []) (.seq (.seq
  (.reg [(none, (.mov (.tmp 4), .some 9)), (none, (.bin .geq (.tmp 9) (.const (.int .u64 65536)), .some 10))] []) (.cond (.tmp 10)
  (.reg [(none, (.mov (.tmp 0), .some 11)), (none, (.mov (.tmp 3), .some 12)), (none, (.call (.func 92) [.tmp 11, .const (.int .i64 10), .tmp 12], .some 13))] []) .skip)) (.seq (.seq
  (.reg [(none, (.mov (.tmp 0), .some 14)), (none, (.call (.func 60) [.tmp 14], .some 15)), (none, (.un .not (.tmp 15), .some 16))] []) (.cond (.tmp 16) (.seq
  (.reg [(none, (.mov (.const (.int .i64 0)), .some 2))] []) .ret) .skip)) (.seq
  (.reg [(none, (.mov (.tmp 4), .some 17)), (none, (.cvt .i64 (.tmp 17), .some 18)), (none, (.bin .add (.tmp 18) (.const (.int .i64 1)), .some 19)), (none, (.mov (.tmp 19), .some 2))] []) .ret)))))
theorem b59 : Try.f59.body.bind (compC Try.prog) = some c59 := by kernel_rfl
theorem r59 : compR Try.prog Try.f59 = .some [.tmp 2] := by kernel_rfl
theorem n59 : (Try.f59.name == "runtime.NumGoroutine") = false := by kernel_rfl
def c71 : C := .seq
  (.reg [(none, (.new [.int .i64 0, .int .i64 0], .some 4))] []) (.seq (.seq
  (.reg [(none, (.mov (.tmp 0), .some 5)), (none, (.bin .eql (.tmp 5) (.const (.int .i64 0)), .some 6))] []) (.cond (.tmp 6) (.seq
  (.reg [(none, (.build [.int .i64 0, .int .i64 0] [], .some 7)), (none, (.store 2 (.tmp 4) (.tmp 7), none))] []) .ret) .skip)) (.seq
  (.reg [(none, (.mov (.tmp 0), .some 8)), (none, (.mov (.tmp 1), .some 9)), (none, (.build [.int .i64 0, .int .i64 0] [(0, (1, .tmp 8)), (1, (1, .tmp 9))], .some 10)), (none, (.store 2 (.tmp 4) (.tmp 10), none))] []) .ret))
theorem b71 : Try.f71.body.bind (compC Try.prog) = some c71 := by kernel_rfl
theorem r71 : compR Try.prog Try.f71 = .some [.cell 4 (.some 2)] := by kernel_rfl
theorem n71 : (Try.f71.name == "runtime.NumGoroutine") = false := by kernel_rfl
def c91 : C := .seq
  (.reg [(none, (.mov (.const (.int .i64 0)), .some 2))] []) (.seq (.seq
  (.reg [(none, (.mov (.tmp 0), .some 3)), (none, (.eqp .false (.tmp 3) (.const (.pointer none)), .some 4))] []) (.cond (.tmp 4) (.seq
  (.reg [(none, (.mov (.const (.int .i64 0)), .some 2))] []) .ret) .skip)) (.seq
  (.reg [(none, (.mov (.tmp 0), .some 5)), (none, (.nilc (.tmp 5), .some 6)), (none, (.fadr 0 (.tmp 6), .some 7)), (none, (.load none (.tmp 7), .some 8)), (none, (.len .false (.tmp 8), .some 9)), (none, (.mov (.tmp 0), .some 10)), (none, (.nilc (.tmp 10), .some 11)), (none, (.fadr 1 (.tmp 11), .some 12)), (none, (.load none (.tmp 12), .some 13)), (none, (.bin .sub (.tmp 9) (.tmp 13), .some 14)), (none, (.mov (.tmp 14), .some 2))] [(3, 8)]) .ret))
theorem b91 : Try.f91.body.bind (compC Try.prog) = some c91 := by kernel_rfl
theorem r91 : compR Try.prog Try.f91 = .some [.tmp 2] := by kernel_rfl
theorem n91 : (Try.f91.name == "runtime.NumGoroutine") = false := by kernel_rfl
def c95 : C := .seq
  (.reg [(none, (.box (.tmp 0), .some 1)), (none, (.new [.slice none 0 0, .int .i64 0, .int .i64 0, .int .i64 0], .some 2)), (none, (.mov (.const (.int .u64 0)), .some 3))] []) (.seq (.seq
  (.reg [(none, (.fadr 2 (.tmp 1), .some 7)), (none, (.fadr 0 (.tmp 7), .some 8)), (none, (.load none (.tmp 8), .some 9)), (none, (.bin .neq (.tmp 9) (.const (.int .i64 0)), .some 10))] []) (.cond (.tmp 10) (.seq
  (.reg [(none, (.load (.some 4) (.tmp 1), .some 11)), (none, (.store 4 (.tmp 2) (.tmp 11), none)), (none, (.mov (.const (.int .u64 0)), .some 3))] []) .ret) .skip)) (.seq
  (.reg [(none, (.fadr 0 (.tmp 1), .some 13)), (none, (.load none (.tmp 13), .some 14)), (none, (.fadr 1 (.tmp 1), .some 15)), (none, (.load none (.tmp 15), .some 16)), (none, (.slice 1 (.tmp 14) (.some (.tmp 16)) none none, .some 17)), (none, (.call (.func 116) [.tmp 17], .some 18)), (none, (.mov (.tmp 18), .some 12)), (none, (.ext (.tmp 12) 0, .some 19)), (none, (.ext (.tmp 12) 1, .some 20)), (none, (.ext (.tmp 12) 2, .some 21)), (none, (.new [.int .i64 0, .int .i64 0], .some 6)), (none, (.mov (.tmp 19), .some 4)), (none, (.mov (.tmp 20), .some 5)), (none, (.store 2 (.tmp 6) (.tmp 21), none))] []) (.seq (.seq
  (.reg [(none, (.fadr 0 (.tmp 6), .some 22)), (none, (.load none (.tmp 22), .some 23)), (none, (.bin .eql (.tmp 23) (.const (.int .i64 0)), .some 24))] []) (.cond (.tmp 24) (.seq
  (.reg [(none, (.fadr 1 (.tmp 1), .some 25)), (none, (.load none (.tmp 25), .some 26)), (none, (.mov (.tmp 5), .some 27)), (none, (.bin .add (.tmp 26) (.tmp 27), .some 28)), (none, (.fadr 1 (.tmp 1), .some 29)), (none, (.store 1 (.tmp 29) (.tmp 28), none))] []) (.seq
  (.reg [(none, (.load (.some 4) (.tmp 1), .some 30)), (none, (.mov (.tmp 4), .some 31)), (none, (.store 4 (.tmp 2) (.tmp 30), none)), (none, (.mov (.tmp 31), .some 3))] []) .ret)) .skip)) (.seq (.seq
  (.reg [(none, (.fadr 0 (.tmp 6), .some 32)), (none, (.load none (.tmp 32), .some 33)), (none, (.bin .eql (.tmp 33) (.const (.int .i64 1)), .some 34))] []) (.cond (.tmp 34)
  (.reg [(none, (.fadr 0 (.tmp 1), .some 35)), (none, (.load none (.tmp 35), .some 36)), (none, (.len .false (.tmp 36), .some 37)), (none, (.fadr 1 (.tmp 1), .some 38)), (none, (.store 1 (.tmp 38) (.tmp 37), none))] [])
  (.reg [(none, (.fadr 1 (.tmp 1), .some 39)), (none, (.load none (.tmp 39), .some 40)), (none, (.fadr 1 (.tmp 6), .some 41)), (none, (.load none (.tmp 41), .some 42)), (none, (.bin .add (.tmp 40) (.tmp 42), .some 43)), (none, (.bin .add (.tmp 43) (.const (.int .i64 1)), .some 44)), (none, (.fadr 1 (.tmp 1), .some 45)), (none, (.store 1 (.tmp 45) (.tmp 44), none))] []))) (.seq
  (.reg [(none, (.fadr 0 (.tmp 6), .some 46)), (none, (.load none (.tmp 46), .some 47)), (none, (.fadr 1 (.tmp 1), .some 48)), (none, (.load none (.tmp 48), .some 49)), (none, (.call (.func 73) [.tmp 47, .tmp 49], .some 50)), (none, (.fadr 2 (.tmp 1), .some 51)), (none, (.store 2 (.tmp 51) (.tmp 50), none))] []) (.seq (.seq
  (.reg [(none, (.fadr 0 (.tmp 6), .some 52)), (none, (.load none (.tmp 52), .some 53)), (none, (.bin .neq (.tmp 53) (.const (.int .i64 1)), .some 54))] []) (.cond (.tmp 54)
  (.reg [(none, (.fadr 1 (.tmp 1), .some 55)), (none, (.load none (.tmp 55), .some 56)), (none, (.bin .sub (.tmp 56) (.const (.int .i64 1)), .some 57)), (none, (.fadr 2 (.tmp 1), .some 58)), (none, (.fadr 1 (.tmp 58), .some 59)), (none, (.store 1 (.tmp 59) (.tmp 57), none))] []) .skip)) (.seq
  (.reg [(none, (.load (.some 4) (.tmp 1), .some 60)), (none, (.store 4 (.tmp 2) (.tmp 60), none)), (none, (.mov (.const (.int .u64 0)), .some 3))] []) .ret)))))))
theorem b95 : Try.f95.body.bind (compC Try.prog) = some c95 := by kernel_rfl
theorem r95 : compR Try.prog Try.f95 = .some [.cell 2 (.some 4), .tmp 3] := by kernel_rfl
theorem n95 : (Try.f95.name == "runtime.NumGoroutine") = false := by kernel_rfl
def c96 : C := .seq
  (.reg [(none, (.mov (.const (.int .i64 0)), .some 2))] []) (.seq (.seq
  (.reg [(none, (.mov (.tmp 0), .some 3)), (none, (.bin .rem (.tmp 3) (.const (.int .u64 2)), .some 4)), (none, (.bin .eql (.tmp 4) (.const (.int .u64 0)), .some 5)), (none, (.mov (.tmp 5), .some 6)), (.some (6, .true), (.mov (.tmp 0), .some 7)), (.some (6, .true), (.bin .quo (.tmp 7) (.const (.int .u64 2)), .some 8)), (.some (6, .true), (.bin .lss (.tmp 8) (.const (.int .u64 1048576)), .some 9)), (none, (.pick (.tmp 6) (.tmp 9) (.const (.bool .false)), .some 10))] []) (.cond (.tmp 10) (.seq
  (.reg [(none, (.mov (.tmp 0), .some 11)), (none, (.bin .quo (.tmp 11) (.const (.int .u64 2)), .some 12)), (none, (.cvt .i64 (.tmp 12), .some 13)), (none, (.bin .add (.tmp 13) (.const (.int .i64 1)), .some 14)), (none, (.mov (.tmp 14), .some 2))] []) .ret) .skip)) (.seq (.seq
  (.reg [(none, (.mov (.tmp 0), .some 15)), (none, (.bin .rem (.tmp 15) (.const (.int .u64 2)), .some 16)), (none, (.bin .eql (.tmp 16) (.const (.int .u64 1)), .some 17)), (none, (.mov (.tmp 17), .some 18)), (.some (18, .true), (.mov (.tmp 0), .some 19)), (.some (18, .true), (.bin .quo (.tmp 19) (.const (.int .u64 2)), .some 20)), (.some (18, .true), (.bin .leq (.tmp 20) (.const (.int .u64 1048572)), .some 21)), (none, (.pick (.tmp 18) (.tmp 21) (.const (.bool .false)), .some 22))] []) (.cond (.tmp 22) (.seq
  (.reg [(none, (.mov (.tmp 0), .some 23)), (none, (.bin .quo (.tmp 23) (.const (.int .u64 2)), .some 24)), (none, (.cvt .i64 (.tmp 24), .some 25)), (none, (.bin .add (.tmp 25) (.const (.int .i64 4)), .some 26)), (none, (.mov (.tmp 26), .some 2))] []) .ret) .skip)) (.seq
  (.reg [(none, (.mov (.const (.int .i64 0)), .some 2))] []) .ret)))
theorem b96 : Try.f96.body.bind (compC Try.prog) = some c96 := by kernel_rfl
theorem r96 : compR Try.prog Try.f96 = .some [.tmp 2] := by kernel_rfl
theorem n96 : (Try.f96.name == "runtime.NumGoroutine") = false := by kernel_rfl
def c115 : C := .seq
  (.reg [(none, (.mov (.const (.bool .false)), .some 4))] []) (.seq (.block 0 (.seq
  (.reg [(none, (.mov (.tmp 0), .some 6)), (none, (.call (.func 60) [.tmp 6], .some 7)), (none, (.un .not (.tmp 7), .some 8)), (none, (.mov (.tmp 8), .some 5))] []) (.cond (.tmp 5) (.seq
  (.reg [(none, (.mov (.const (.bool .false)), .some 4))] []) .ret) (.seq
  (.reg [(none, (.mov (.tmp 1), .some 10)), (none, (.bin .lss (.tmp 10) (.const (.int .i64 0)), .some 11)), (none, (.mov (.tmp 11), .some 9))] []) (.cond (.tmp 9) (.seq
  (.reg [(none, (.mov (.tmp 0), .some 12)), (none, (.mov (.tmp 0), .some 13)), (none, (.nilc (.tmp 13), .some 14)), (none, (.fadr 1 (.tmp 14), .some 15)), (none, (.load none (.tmp 15), .some 16)), (none, (.call (.func 92) [.tmp 12, .const (.int .i64 17), .tmp 16], .some 17))] []) (.seq
  (.reg [(none, (.mov (.const (.bool .false)), .some 4))] []) .ret)) (.seq
  (.reg [(none, (.mov (.tmp 1), .some 19)), (none, (.mov (.tmp 0), .some 20)), (none, (.call (.func 91) [.tmp 20], .some 21)), (none, (.bin .gtr (.tmp 19) (.tmp 21), .some 22)), (none, (.mov (.tmp 22), .some 18))] []) (.cond (.tmp 18) (.seq
  (.reg [(none, (.mov (.tmp 0), .some 23)), (none, (.mov (.tmp 0), .some 24)), (none, (.nilc (.tmp 24), .some 25)), (none, (.fadr 0 (.tmp 25), .some 26)), (none, (.load none (.tmp 26), .some 27)), (none, (.len .false (.tmp 27), .some 28)), (none, (.call (.func 92) [.tmp 23, .const (.int .i64 1), .tmp 28], .some 29))] []) (.seq
  (.reg [(none, (.mov (.const (.bool .false)), .some 4))] []) .ret)) .skip))))))) (.seq
  (.reg [(none, (.mov (.tmp 0), .some 30)), (none, (.nilc (.tmp 30), .some 31)), (none, (.fadr 1 (.tmp 31), .some 32)), (none, (.load none (.tmp 32), .some 33)), (none, (.mov (.tmp 1), .some 34)), (none, (.bin .add (.tmp 33) (.tmp 34), .some 35)), (none, (.nilc (.tmp 30), .some 36)), (none, (.fadr 1 (.tmp 36), .some 37)), (none, (.store 1 (.tmp 37) (.tmp 35), none))] []) (.seq
  (.reg [(none, (.mov (.const (.bool .true)), .some 4))] []) .ret)))
theorem b115 : Try.f115.body.bind (compC Try.prog) = some c115 := by kernel_rfl
theorem r115 : compR Try.prog Try.f115 = .some [.tmp 4] := by kernel_rfl
theorem n115 : (Try.f115.name == "runtime.NumGoroutine") = false := by kernel_rfl
end Go.Proofs.Ytpjkmidjjodplaa
