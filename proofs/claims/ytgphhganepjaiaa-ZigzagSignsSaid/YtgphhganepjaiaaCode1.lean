/-
  The codes of the seat's functions over abstract values, each shown to be its function's own (by program: wip/tools/codes.py).
-/
import Derived.Test.YtgphhganepjaiaaA2
import Derived.Test.YtgphhganepjaiaaProg
import Derived.KernelRfl
namespace Go.Proofs.Ytgphhganepjaiaa
def c5 : C := .seq
  (.reg [(none, (.mov (.const (.bool .false)), .some 2))] []) (.seq (.seq
  (.reg [(none, (.mov (.tmp 0), .some 9)), (none, (.call (.func 34) [.tmp 9], .some 10)), (none, (.mov (.tmp 0), .some 11)), (none, (.call (.func 32) [.tmp 11], .some 12)), (none, (.eqb .true (.tmp 10) (.tmp 12), .some 13)), (none, (.mov (.tmp 13), .some 14)), (.some (14, .false), (.mov (.tmp 0), .some 15)), (.some (14, .false), (.call (.func 35) [.tmp 15], .some 16)), (.some (14, .false), (.mov (.tmp 0), .some 17)), (.some (14, .false), (.call (.func 36) [.tmp 17], .some 18)), (.some (14, .false), (.eqb .true (.tmp 16) (.tmp 18), .some 19)), (none, (.pick (.tmp 14) (.const (.bool .true)) (.tmp 19), .some 20))] []) (.cond (.tmp 20) (.seq
  (.reg [(none, (.mov (.const (.bool .false)), .some 2))] []) .ret) .skip)) (.seq
  (.reg [(none, (.call (.func 37) [.const (.int .i64 20)], .some 21)), (none, (.call (.func 37) [.const (.int .i64 20)], .some 22)), (none, (.mov (.tmp 21), .some 3)), (none, (.mov (.tmp 22), .some 4))] []) (.seq
  (.reg [(none, (.mov (.tmp 3), .some 23)), (none, (.mov (.tmp 0), .some 24)), (none, (.call (.func 38) [.tmp 23, .tmp 24], .some 25))] []) (.seq
  (.reg [(none, (.mov (.tmp 4), .some 26)), (none, (.mov (.tmp 0), .some 27)), (none, (.call (.func 39) [.tmp 26, .tmp 27], .some 28))] []) (.seq
  (.reg [(none, (.mov (.tmp 3), .some 30)), (none, (.call (.func 40) [.tmp 30], .some 31)), (none, (.mov (.tmp 31), .some 29)), (none, (.ext (.tmp 29) 0, .some 32)), (none, (.ext (.tmp 29) 1, .some 33)), (none, (.mov (.tmp 32), .some 5)), (none, (.mov (.tmp 33), .some 6))] []) (.seq
  (.reg [(none, (.mov (.tmp 4), .some 35)), (none, (.call (.func 40) [.tmp 35], .some 36)), (none, (.mov (.tmp 36), .some 34)), (none, (.ext (.tmp 34) 0, .some 37)), (none, (.ext (.tmp 34) 1, .some 38)), (none, (.mov (.tmp 37), .some 7)), (none, (.mov (.tmp 38), .some 8))] []) (.seq (.seq
  (.reg [(none, (.mov (.tmp 6), .some 39)), (none, (.bin .eql (.tmp 39) (.const (.int .i64 0)), .some 40)), (none, (.mov (.tmp 0), .some 41)), (none, (.call (.func 32) [.tmp 41], .some 42)), (none, (.eqb .true (.tmp 40) (.tmp 42), .some 43)), (none, (.mov (.tmp 43), .some 44)), (.some (44, .false), (.mov (.tmp 8), .some 45)), (.some (44, .false), (.bin .eql (.tmp 45) (.const (.int .i64 0)), .some 46)), (.some (44, .false), (.mov (.tmp 0), .some 47)), (.some (44, .false), (.call (.func 36) [.tmp 47], .some 48)), (.some (44, .false), (.eqb .true (.tmp 46) (.tmp 48), .some 49)), (none, (.pick (.tmp 44) (.const (.bool .true)) (.tmp 49), .some 50)), (none, (.mov (.tmp 50), .some 51)), (.some (51, .false), (.mov (.tmp 6), .some 52)), (.some (51, .false), (.bin .neq (.tmp 52) (.const (.int .i64 0)), .some 53)), (.some (51, .false), (.mov (.tmp 53), .some 54)), (.some (54, .true), (.mov (.tmp 6), .some 55)), (.some (54, .true), (.bin .neq (.tmp 55) (.const (.int .i64 3)), .some 56)), (.some (51, .false), (.pick (.tmp 54) (.tmp 56) (.const (.bool .false)), .some 57)), (none, (.pick (.tmp 51) (.const (.bool .true)) (.tmp 57), .some 58)), (none, (.mov (.tmp 58), .some 59)), (.some (59, .false), (.mov (.tmp 8), .some 60)), (.some (59, .false), (.bin .neq (.tmp 60) (.const (.int .i64 0)), .some 61)), (.some (59, .false), (.mov (.tmp 61), .some 62)), (.some (62, .true), (.mov (.tmp 8), .some 63)), (.some (62, .true), (.bin .neq (.tmp 63) (.const (.int .i64 3)), .some 64)), (.some (59, .false), (.pick (.tmp 62) (.tmp 64) (.const (.bool .false)), .some 65)), (none, (.pick (.tmp 59) (.const (.bool .true)) (.tmp 65), .some 66))] []) (.cond (.tmp 66) (.seq
  (.reg [(none, (.mov (.const (.bool .false)), .some 2))] []) .ret) .skip)) (.seq
  (.reg [(none, (.mov (.tmp 6), .some 67)), (none, (.bin .neq (.tmp 67) (.const (.int .i64 0)), .some 68)), (none, (.mov (.tmp 68), .some 69)), (.some (69, .false), (.mov (.tmp 5), .some 70)), (.some (69, .false), (.mov (.tmp 0), .some 71)), (.some (69, .false), (.call (.func 42) [.tmp 71], .some 72)), (.some (69, .false), (.call (.func 41) [.tmp 70, .tmp 72], .some 73)), (none, (.pick (.tmp 69) (.const (.bool .true)) (.tmp 73), .some 74)), (none, (.mov (.tmp 74), .some 75)), (.some (75, .true), (.mov (.tmp 8), .some 76)), (.some (75, .true), (.bin .neq (.tmp 76) (.const (.int .i64 0)), .some 77)), (.some (75, .true), (.mov (.tmp 77), .some 78)), (.some (78, .false), (.mov (.tmp 7), .some 79)), (.some (78, .false), (.mov (.tmp 0), .some 80)), (.some (78, .false), (.call (.func 42) [.tmp 80], .some 81)), (.some (78, .false), (.call (.func 41) [.tmp 79, .tmp 81], .some 82)), (.some (75, .true), (.pick (.tmp 78) (.const (.bool .true)) (.tmp 82), .some 83)), (none, (.pick (.tmp 75) (.tmp 83) (.const (.bool .false)), .some 84)), (none, (.mov (.tmp 84), .some 85)), (.some (85, .true), (.call (.func 30) [], .some 86)), (none, (.pick (.tmp 85) (.tmp 86) (.const (.bool .false)), .some 87)), (none, (.mov (.tmp 87), .some 2))] []) .ret))))))))
theorem b5 : Try.f5.body.bind (compC Try.prog) = some c5 := by kernel_rfl
theorem r5 : compR Try.prog Try.f5 = .some [.tmp 2] := by kernel_rfl
theorem n5 : (Try.f5.name == "runtime.NumGoroutine") = false := by kernel_rfl
def c9 : C := .seq
  (.reg [(none, (.mov (.const (.bool .false)), .some 2))] []) (.seq (.seq
  (.reg [(none, (.mov (.tmp 0), .some 6)), (none, (.len .false (.tmp 6), .some 7)), (none, (.bin .gtr (.tmp 7) (.const (.int .i64 200)), .some 8))] []) (.cond (.tmp 8) (.seq
  (.reg [(none, (.call (.func 57) [], .some 9)), (none, (.mov (.tmp 9), .some 2))] []) .ret) .skip)) (.seq
  (.reg [(none, (.call (.func 37) [.const (.int .i64 3000)], .some 10)), (none, (.mov (.tmp 10), .some 3))] []) (.seq
  (.reg [(none, (.mov (.tmp 3), .some 11)), (none, (.mov (.tmp 0), .some 12)), (none, (.call (.func 58) [.tmp 11, .tmp 12], .some 13))] []) (.seq
  (.reg [(none, (.mov (.tmp 3), .some 15)), (none, (.call (.func 40) [.tmp 15], .some 16)), (none, (.mov (.tmp 16), .some 14)), (none, (.ext (.tmp 14) 0, .some 17)), (none, (.ext (.tmp 14) 1, .some 18)), (none, (.mov (.tmp 17), .some 4)), (none, (.mov (.tmp 18), .some 5))] []) (.seq (.seq
  (.reg [(none, (.mov (.tmp 0), .some 19)), (none, (.call (.func 59) [.tmp 19], .some 20)), (none, (.un .not (.tmp 20), .some 21))] []) (.cond (.tmp 21) (.seq
  (.reg [(none, (.mov (.tmp 0), .some 22)), (none, (.call (.func 60) [.tmp 22], .some 23)), (none, (.un .not (.tmp 23), .some 24)), (none, (.mov (.tmp 24), .some 25)), (.some (25, .true), (.mov (.tmp 5), .some 26)), (.some (25, .true), (.bin .eql (.tmp 26) (.const (.int .i64 3)), .some 27)), (none, (.pick (.tmp 25) (.tmp 27) (.const (.bool .false)), .some 28)), (none, (.mov (.tmp 28), .some 29)), (.some (29, .true), (.mov (.tmp 4), .some 30)), (.some (29, .true), (.len .false (.tmp 30), .some 31)), (.some (29, .true), (.bin .eql (.tmp 31) (.const (.int .i64 0)), .some 32)), (none, (.pick (.tmp 29) (.tmp 32) (.const (.bool .false)), .some 33)), (none, (.mov (.tmp 33), .some 34)), (.some (34, .true), (.mov (.tmp 0), .some 35)), (.some (34, .true), (.call (.func 61) [.tmp 35], .some 36)), (.some (34, .true), (.bin .eql (.tmp 36) (.const (.int .i64 0)), .some 37)), (none, (.pick (.tmp 34) (.tmp 37) (.const (.bool .false)), .some 38)), (none, (.mov (.tmp 38), .some 39)), (.some (39, .true), (.call (.func 57) [], .some 40)), (none, (.pick (.tmp 39) (.tmp 40) (.const (.bool .false)), .some 41)), (none, (.mov (.tmp 41), .some 2))] []) .ret) .skip)) (.seq
  (.reg [(none, (.mov (.tmp 0), .some 42)), (none, (.call (.func 60) [.tmp 42], .some 43)), (none, (.mov (.tmp 43), .some 44)), (.some (44, .true), (.mov (.tmp 5), .some 45)), (.some (44, .true), (.bin .eql (.tmp 45) (.const (.int .i64 0)), .some 46)), (none, (.pick (.tmp 44) (.tmp 46) (.const (.bool .false)), .some 47)), (none, (.mov (.tmp 47), .some 48)), (.some (48, .true), (.mov (.tmp 4), .some 49)), (.some (48, .true), (.mov (.tmp 0), .some 50)), (.some (48, .true), (.call (.func 62) [.tmp 50], .some 51)), (.some (48, .true), (.call (.func 41) [.tmp 49, .tmp 51], .some 52)), (none, (.pick (.tmp 48) (.tmp 52) (.const (.bool .false)), .some 53)), (none, (.mov (.tmp 53), .some 54)), (.some (54, .true), (.mov (.tmp 0), .some 55)), (.some (54, .true), (.call (.func 61) [.tmp 55], .some 56)), (.some (54, .true), (.mov (.tmp 4), .some 57)), (.some (54, .true), (.len .false (.tmp 57), .some 58)), (.some (54, .true), (.bin .eql (.tmp 56) (.tmp 58), .some 59)), (none, (.pick (.tmp 54) (.tmp 59) (.const (.bool .false)), .some 60)), (none, (.mov (.tmp 60), .some 61)), (.some (61, .true), (.call (.func 57) [], .some 62)), (none, (.pick (.tmp 61) (.tmp 62) (.const (.bool .false)), .some 63)), (none, (.mov (.tmp 63), .some 2))] []) .ret))))))
theorem b9 : Try.f9.body.bind (compC Try.prog) = some c9 := by kernel_rfl
theorem r9 : compR Try.prog Try.f9 = .some [.tmp 2] := by kernel_rfl
theorem n9 : (Try.f9.name == "runtime.NumGoroutine") = false := by kernel_rfl
def c10 : C := .seq
  (.reg [(none, (.mov (.const (.bool .false)), .some 2))] []) (.seq (.seq
  (.reg [(none, (.mov (.tmp 0), .some 6)), (none, (.len .false (.tmp 6), .some 7)), (none, (.bin .gtr (.tmp 7) (.const (.int .i64 300)), .some 8))] []) (.cond (.tmp 8) (.seq
  (.reg [(none, (.call (.func 63) [], .some 9)), (none, (.mov (.tmp 9), .some 2))] []) .ret) .skip)) (.seq
  (.reg [(none, (.mov (.tmp 0), .some 11)), (none, (.call (.func 64) [.tmp 11], .some 12)), (none, (.mov (.tmp 12), .some 10)), (none, (.ext (.tmp 10) 0, .some 13)), (none, (.ext (.tmp 10) 1, .some 14)), (none, (.ext (.tmp 10) 2, .some 15)), (none, (.new [.int .i64 0, .int .i64 0], .some 5)), (none, (.mov (.tmp 13), .some 3)), (none, (.mov (.tmp 14), .some 4)), (none, (.store 2 (.tmp 5) (.tmp 15), none))] []) (.seq (.seq
  (.reg [(none, (.fadr 0 (.tmp 5), .some 16)), (none, (.load none (.tmp 16), .some 17)), (none, (.bin .neq (.tmp 17) (.const (.int .i64 0)), .some 18))] []) (.cond (.tmp 18) (.seq
  (.reg [(none, (.mov (.tmp 3), .some 19)), (none, (.bin .eql (.tmp 19) (.const (.int .u64 0)), .some 20)), (none, (.mov (.tmp 20), .some 21)), (.some (21, .true), (.mov (.tmp 4), .some 22)), (.some (21, .true), (.bin .eql (.tmp 22) (.const (.int .i64 0)), .some 23)), (none, (.pick (.tmp 21) (.tmp 23) (.const (.bool .false)), .some 24)), (none, (.mov (.tmp 24), .some 25)), (.some (25, .true), (.call (.func 63) [], .some 26)), (none, (.pick (.tmp 25) (.tmp 26) (.const (.bool .false)), .some 27)), (none, (.mov (.tmp 27), .some 2))] []) .ret) .skip)) (.seq
  (.reg [(none, (.mov (.tmp 4), .some 28)), (none, (.bin .geq (.tmp 28) (.const (.int .i64 1)), .some 29)), (none, (.mov (.tmp 29), .some 30)), (.some (30, .true), (.mov (.tmp 4), .some 31)), (.some (30, .true), (.mov (.tmp 0), .some 32)), (.some (30, .true), (.len .false (.tmp 32), .some 33)), (.some (30, .true), (.bin .leq (.tmp 31) (.tmp 33), .some 34)), (none, (.pick (.tmp 30) (.tmp 34) (.const (.bool .false)), .some 35)), (none, (.mov (.tmp 35), .some 36)), (.some (36, .true), (.mov (.tmp 3), .some 37)), (.some (36, .true), (.call (.func 65) [.tmp 37], .some 38)), (.some (36, .true), (.mov (.tmp 0), .some 39)), (.some (36, .true), (.mov (.tmp 4), .some 40)), (.some (36, .true), (.slice 1 (.tmp 39) none (.some (.tmp 40)) none, .some 41)), (.some (36, .true), (.call (.func 41) [.tmp 38, .tmp 41], .some 42)), (none, (.pick (.tmp 36) (.tmp 42) (.const (.bool .false)), .some 43)), (none, (.mov (.tmp 43), .some 44)), (.some (44, .true), (.call (.func 63) [], .some 45)), (none, (.pick (.tmp 44) (.tmp 45) (.const (.bool .false)), .some 46)), (none, (.mov (.tmp 46), .some 2))] []) .ret))))
theorem b10 : Try.f10.body.bind (compC Try.prog) = some c10 := by kernel_rfl
theorem r10 : compR Try.prog Try.f10 = .some [.tmp 2] := by kernel_rfl
theorem n10 : (Try.f10.name == "runtime.NumGoroutine") = false := by kernel_rfl
def c12 : C := .seq
  (.reg [(none, (.mov (.const (.bool .false)), .some 4))] []) (.seq (.seq
  (.reg [(none, (.mov (.tmp 0), .some 10)), (none, (.len .false (.tmp 10), .some 11)), (none, (.bin .gtr (.tmp 11) (.const (.int .i64 100)), .some 12))] []) (.cond (.tmp 12) (.seq
  (.reg [(none, (.call (.func 66) [], .some 13)), (none, (.mov (.tmp 13), .some 4))] []) .ret) .skip)) (.seq
  (.reg [(none, (.mov (.tmp 0), .some 15)), (none, (.mov (.tmp 1), .some 16)), (none, (.call (.func 70) [.tmp 15, .tmp 16], .some 17)), (none, (.mov (.tmp 17), .some 14)), (none, (.ext (.tmp 14) 0, .some 18)), (none, (.ext (.tmp 14) 1, .some 19)), (none, (.new [.int .u64 0, .int .i64 0, .int .i64 0], .some 5)), (none, (.store 3 (.tmp 5) (.tmp 18), none)), (none, (.mov (.tmp 19), .some 6))] []) (.seq (.seq
  (.reg [(none, (.mov (.tmp 0), .some 20)), (none, (.call (.func 69) [.tmp 20], .some 21)), (none, (.un .not (.tmp 21), .some 22))] []) (.cond (.tmp 22) (.seq
  (.reg [(none, (.mov (.tmp 6), .some 23)), (none, (.un .not (.tmp 23), .some 24)), (none, (.mov (.tmp 24), .some 25)), (.some (25, .true), (.load (.some 3) (.tmp 5), .some 26)), (.some (25, .true), (.build [.int .u64 0, .int .i64 0, .int .i64 0] [], .some 27)), (.some (25, .true), (.eqa .false 3 (.tmp 26) (.tmp 27), .some 28)), (none, (.pick (.tmp 25) (.tmp 28) (.const (.bool .false)), .some 29)), (none, (.mov (.tmp 29), .some 30)), (.some (30, .true), (.call (.func 66) [], .some 31)), (none, (.pick (.tmp 30) (.tmp 31) (.const (.bool .false)), .some 32)), (none, (.mov (.tmp 32), .some 4))] []) .ret) .skip)) (.seq
  (.reg [(none, (.mov (.tmp 0), .some 33)), (none, (.mov (.tmp 1), .some 34)), (none, (.call (.func 71) [.tmp 33, .tmp 34], .some 35)), (none, (.mov (.tmp 35), .some 7))] []) (.seq
  (.reg [(none, (.mov (.const (.int .i64 0)), .some 8))] []) (.seq (.seq
  (.reg [(none, (.mov (.const (.int .i64 0)), .some 9))] []) (.block 0 (.loop (.seq (.seq
  (.reg [(none, (.mov (.tmp 9), .some 36)), (none, (.mov (.tmp 0), .some 37)), (none, (.len .false (.tmp 37), .some 38)), (none, (.bin .lss (.tmp 36) (.tmp 38), .some 39))] []) (.cond (.tmp 39) .skip (.exit 0))) (.seq (.block 1 (.seq
  (.reg [(none, (.mov (.tmp 1), .some 42)), (none, (.mov (.tmp 0), .some 43)), (none, (.mov (.tmp 9), .some 44)), (none, (.iadr 3 (.tmp 43) (.tmp 44), .some 45)), (none, (.fadr 0 (.tmp 45), .some 46)), (none, (.load none (.tmp 46), .some 47)), (none, (.bin .geq (.tmp 42) (.tmp 47), .some 48)), (none, (.mov (.tmp 48), .some 49)), (.some (49, .true), (.mov (.tmp 1), .some 50)), (.some (49, .true), (.mov (.tmp 0), .some 51)), (.some (49, .true), (.mov (.tmp 9), .some 52)), (.some (49, .true), (.iadr 3 (.tmp 51) (.tmp 52), .some 53)), (.some (49, .true), (.fadr 0 (.tmp 53), .some 54)), (.some (49, .true), (.load none (.tmp 54), .some 55)), (.some (49, .true), (.mov (.tmp 0), .some 56)), (.some (49, .true), (.mov (.tmp 9), .some 57)), (.some (49, .true), (.iadr 3 (.tmp 56) (.tmp 57), .some 58)), (.some (49, .true), (.fadr 1 (.tmp 58), .some 59)), (.some (49, .true), (.load none (.tmp 59), .some 60)), (.some (49, .true), (.cvt .u64 (.tmp 60), .some 61)), (.some (49, .true), (.bin .add (.tmp 55) (.tmp 61), .some 62)), (.some (49, .true), (.bin .lss (.tmp 50) (.tmp 62), .some 63)), (none, (.pick (.tmp 49) (.tmp 63) (.const (.bool .false)), .some 64))] [(13, 18)]) (.cond (.tmp 64)
  (.reg [(none, (.mov (.tmp 8), .some 65)), (none, (.bin .add (.tmp 65) (.const (.int .i64 1)), .some 66)), (none, (.mov (.tmp 66), .some 8))] []) .skip)))
  (.reg [(none, (.mov (.tmp 9), .some 40)), (none, (.bin .add (.tmp 40) (.const (.int .i64 1)), .some 41)), (none, (.mov (.tmp 41), .some 9))] [])))))) (.seq (.seq
  (.reg [(none, (.mov (.tmp 8), .some 67)), (none, (.bin .gtr (.tmp 67) (.const (.int .i64 1)), .some 68)), (none, (.mov (.tmp 68), .some 69)), (.some (69, .false), (.mov (.tmp 6), .some 70)), (.some (69, .false), (.mov (.tmp 8), .some 71)), (.some (69, .false), (.bin .eql (.tmp 71) (.const (.int .i64 1)), .some 72)), (.some (69, .false), (.eqb .true (.tmp 70) (.tmp 72), .some 73)), (none, (.pick (.tmp 69) (.const (.bool .true)) (.tmp 73), .some 74))] []) (.cond (.tmp 74) (.seq
  (.reg [(none, (.mov (.const (.bool .false)), .some 4))] []) .ret) .skip)) (.seq
  (.reg [(none, (.mov (.tmp 6), .some 75)), (none, (.un .not (.tmp 75), .some 76)), (none, (.mov (.tmp 76), .some 77)), (.some (77, .true), (.load (.some 3) (.tmp 5), .some 78)), (.some (77, .true), (.build [.int .u64 0, .int .i64 0, .int .i64 0] [], .some 79)), (.some (77, .true), (.eqa .false 3 (.tmp 78) (.tmp 79), .some 80)), (none, (.pick (.tmp 77) (.tmp 80) (.const (.bool .false)), .some 81)), (none, (.mov (.tmp 81), .some 82)), (.some (82, .false), (.mov (.tmp 6), .some 83)), (.some (82, .false), (.mov (.tmp 83), .some 84)), (.some (84, .true), (.load (.some 3) (.tmp 5), .some 85)), (.some (84, .true), (.mov (.tmp 0), .some 86)), (.some (84, .true), (.mov (.tmp 7), .some 87)), (.some (84, .true), (.iadr 3 (.tmp 86) (.tmp 87), .some 88)), (.some (84, .true), (.load (.some 3) (.tmp 88), .some 89)), (.some (84, .true), (.eqa .false 3 (.tmp 85) (.tmp 89), .some 90)), (.some (82, .false), (.pick (.tmp 84) (.tmp 90) (.const (.bool .false)), .some 91)), (none, (.pick (.tmp 82) (.const (.bool .true)) (.tmp 91), .some 92)), (none, (.mov (.tmp 92), .some 93)), (.some (93, .true), (.call (.func 66) [], .some 94)), (none, (.pick (.tmp 93) (.tmp 94) (.const (.bool .false)), .some 95)), (none, (.mov (.tmp 95), .some 4))] [(10, 14)]) .ret))))))))
theorem b12 : Try.f12.body.bind (compC Try.prog) = some c12 := by kernel_rfl
theorem r12 : compR Try.prog Try.f12 = .some [.tmp 4] := by kernel_rfl
theorem n12 : (Try.f12.name == "runtime.NumGoroutine") = false := by kernel_rfl
def c13 : C := .seq
  (.reg [(none, (.mov (.const (.bool .false)), .some 6))] []) (.seq (.seq
  (.reg [(none, (.mov (.tmp 2), .some 10)), (none, (.len .false (.tmp 10), .some 11)), (none, (.bin .gtr (.tmp 11) (.const (.int .i64 300)), .some 12))] []) (.cond (.tmp 12) (.seq
  (.reg [(none, (.call (.func 63) [], .some 13)), (none, (.mov (.tmp 13), .some 6))] []) .ret) .skip)) (.seq
  (.reg [(none, (.mov (.tmp 0), .some 15)), (none, (.call (.func 65) [.tmp 15], .some 16)), (none, (.mov (.tmp 2), .some 17)), (none, (.app 1 1 (.tmp 16) (.tmp 17), .some 18)), (none, (.call (.func 64) [.tmp 18], .some 19)), (none, (.mov (.tmp 19), .some 14)), (none, (.ext (.tmp 14) 0, .some 20)), (none, (.ext (.tmp 14) 1, .some 21)), (none, (.ext (.tmp 14) 2, .some 22)), (none, (.new [.int .i64 0, .int .i64 0], .some 9)), (none, (.mov (.tmp 20), .some 7)), (none, (.mov (.tmp 21), .some 8)), (none, (.store 2 (.tmp 9) (.tmp 22), none))] []) (.seq
  (.reg [(none, (.mov (.tmp 7), .some 23)), (none, (.mov (.tmp 0), .some 24)), (none, (.bin .eql (.tmp 23) (.tmp 24), .some 25)), (none, (.mov (.tmp 25), .some 26)), (.some (26, .true), (.mov (.tmp 8), .some 27)), (.some (26, .true), (.mov (.tmp 0), .some 28)), (.some (26, .true), (.call (.func 72) [.tmp 28], .some 29)), (.some (26, .true), (.bin .eql (.tmp 27) (.tmp 29), .some 30)), (none, (.pick (.tmp 26) (.tmp 30) (.const (.bool .false)), .some 31)), (none, (.mov (.tmp 31), .some 32)), (.some (32, .true), (.load (.some 2) (.tmp 9), .some 33)), (.some (32, .true), (.build [.int .i64 0, .int .i64 0] [], .some 34)), (.some (32, .true), (.eqa .false 2 (.tmp 33) (.tmp 34), .some 35)), (none, (.pick (.tmp 32) (.tmp 35) (.const (.bool .false)), .some 36)), (none, (.mov (.tmp 36), .some 37)), (.some (37, .true), (.mov (.tmp 0), .some 38)), (.some (37, .true), (.mov (.tmp 1), .some 39)), (.some (37, .true), (.bin .lss (.tmp 38) (.tmp 39), .some 40)), (.some (37, .true), (.mov (.tmp 40), .some 41)), (.some (41, .false), (.mov (.tmp 0), .some 42)), (.some (41, .false), (.call (.func 72) [.tmp 42], .some 43)), (.some (41, .false), (.mov (.tmp 1), .some 44)), (.some (41, .false), (.call (.func 72) [.tmp 44], .some 45)), (.some (41, .false), (.bin .geq (.tmp 43) (.tmp 45), .some 46)), (.some (37, .true), (.pick (.tmp 41) (.const (.bool .true)) (.tmp 46), .some 47)), (none, (.pick (.tmp 37) (.tmp 47) (.const (.bool .false)), .some 48)), (none, (.mov (.tmp 48), .some 49)), (.some (49, .true), (.mov (.tmp 8), .some 50)), (.some (49, .true), (.bin .geq (.tmp 50) (.const (.int .i64 1)), .some 51)), (none, (.pick (.tmp 49) (.tmp 51) (.const (.bool .false)), .some 52)), (none, (.mov (.tmp 52), .some 53)), (.some (53, .true), (.mov (.tmp 8), .some 54)), (.some (53, .true), (.bin .leq (.tmp 54) (.const (.int .i64 10)), .some 55)), (none, (.pick (.tmp 53) (.tmp 55) (.const (.bool .false)), .some 56)), (none, (.mov (.tmp 56), .some 57)), (.some (57, .true), (.call (.func 63) [], .some 58)), (none, (.pick (.tmp 57) (.tmp 58) (.const (.bool .false)), .some 59)), (none, (.mov (.tmp 59), .some 6))] []) .ret)))
theorem b13 : Try.f13.body.bind (compC Try.prog) = some c13 := by kernel_rfl
theorem r13 : compR Try.prog Try.f13 = .some [.tmp 6] := by kernel_rfl
theorem n13 : (Try.f13.name == "runtime.NumGoroutine") = false := by kernel_rfl
def c14 : C := .seq
  (.reg [(none, (.mov (.const (.bool .false)), .some 2))] []) (.seq (.seq
  (.reg [(none, (.mov (.tmp 0), .some 8)), (none, (.len .false (.tmp 8), .some 9)), (none, (.bin .gtr (.tmp 9) (.const (.int .i64 300)), .some 10))] []) (.cond (.tmp 10) (.seq
  (.reg [(none, (.call (.func 30) [], .some 11)), (none, (.mov (.tmp 11), .some 2))] []) .ret) .skip)) (.seq (.seq
  (.reg [(none, (.mov (.const (.int .i64 1)), .some 3))] []) (.block 0 (.loop (.seq (.seq
  (.reg [(none, (.mov (.tmp 3), .some 12)), (none, (.bin .lss (.tmp 12) (.const (.int .i64 4)), .some 13))] []) (.cond (.tmp 13) .skip (.exit 0))) (.seq (.block 1 (.seq
  (.reg [(none, (.mov (.tmp 0), .some 16)), (none, (.call (.func 73) [.tmp 16], .some 17)), (none, (.mov (.tmp 17), .some 4))] []) (.seq
  (.reg [(none, (.mov (.const (.int .u64 0)), .some 5))] []) (.seq (.seq
  (.reg [(none, (.mov (.tmp 3), .some 18))] []) (.block 2 (.seq
  (.reg [(none, (.bin .eql (.tmp 18) (.const (.int .i64 1)), .some 22)), (none, (.mov (.tmp 22), .some 21))] []) (.cond (.tmp 21)
  (.reg [(none, (.mov (.tmp 4), .some 23)), (none, (.call (.func 74) [.tmp 23], .some 24)), (none, (.mov (.tmp 24), .some 5))] []) (.seq
  (.reg [(none, (.bin .eql (.tmp 18) (.const (.int .i64 2)), .some 26)), (none, (.mov (.tmp 26), .some 25))] []) (.cond (.tmp 25)
  (.reg [(none, (.mov (.tmp 4), .some 27)), (none, (.call (.func 75) [.tmp 27], .some 28)), (none, (.mov (.tmp 28), .some 5))] [])
  (.reg [(none, (.mov (.tmp 4), .some 19)), (none, (.call (.func 76) [.tmp 19], .some 20)), (none, (.mov (.tmp 20), .some 5))] []))))))) (.seq
  (.reg [(none, (.mov (.tmp 0), .some 30)), (none, (.build [.slice none 0 0, .int .i64 0, .int .i64 0, .int .i64 0] [(0, (1, .tmp 30))], .some 31)), (none, (.mov (.tmp 3), .some 32)), (none, (.call (.func 77) [.tmp 31, .tmp 32], .some 33)), (none, (.mov (.tmp 33), .some 29)), (none, (.ext (.tmp 29) 0, .some 34)), (none, (.ext (.tmp 29) 1, .some 35)), (none, (.new [.slice none 0 0, .int .i64 0, .int .i64 0, .int .i64 0], .some 6)), (none, (.store 4 (.tmp 6) (.tmp 34), none)), (none, (.mov (.tmp 35), .some 7))] []) (.seq
  (.reg [(none, (.mov (.tmp 5), .some 36)), (none, (.mov (.tmp 7), .some 37)), (none, (.bin .neq (.tmp 36) (.tmp 37), .some 38)), (none, (.mov (.tmp 38), .some 39)), (.some (39, .false), (.mov (.tmp 4), .some 40)), (.some (39, .false), (.call (.func 78) [.tmp 40], .some 41)), (.some (39, .false), (.fadr 2 (.tmp 6), .some 42)), (.some (39, .false), (.load (.some 2) (.tmp 42), .some 43)), (.some (39, .false), (.eqa .true 2 (.tmp 41) (.tmp 43), .some 44)), (none, (.pick (.tmp 39) (.const (.bool .true)) (.tmp 44), .some 45)), (none, (.mov (.tmp 45), .some 46)), (.some (46, .false), (.fadr 2 (.tmp 6), .some 47)), (.some (46, .false), (.fadr 0 (.tmp 47), .some 48)), (.some (46, .false), (.load none (.tmp 48), .some 49)), (.some (46, .false), (.bin .eql (.tmp 49) (.const (.int .i64 0)), .some 50)), (.some (46, .false), (.mov (.tmp 50), .some 51)), (.some (51, .true), (.mov (.tmp 4), .some 52)), (.some (51, .true), (.call (.func 79) [.tmp 52], .some 53)), (.some (51, .true), (.fadr 1 (.tmp 6), .some 54)), (.some (51, .true), (.load none (.tmp 54), .some 55)), (.some (51, .true), (.bin .neq (.tmp 53) (.tmp 55), .some 56)), (.some (51, .true), (.mov (.tmp 56), .some 57)), (.some (57, .false), (.mov (.tmp 5), .some 58)), (.some (57, .false), (.call (.func 42) [.tmp 58], .some 59)), (.some (57, .false), (.mov (.tmp 0), .some 60)), (.some (57, .false), (.mov (.tmp 4), .some 61)), (.some (57, .false), (.call (.func 79) [.tmp 61], .some 62)), (.some (57, .false), (.slice 1 (.tmp 60) none (.some (.tmp 62)) none, .some 63)), (.some (57, .false), (.call (.func 41) [.tmp 59, .tmp 63], .some 64)), (.some (57, .false), (.un .not (.tmp 64), .some 65)), (.some (51, .true), (.pick (.tmp 57) (.const (.bool .true)) (.tmp 65), .some 66)), (.some (46, .false), (.pick (.tmp 51) (.tmp 66) (.const (.bool .false)), .some 67)), (none, (.pick (.tmp 46) (.const (.bool .true)) (.tmp 67), .some 68))] [(5, 7), (17, 19)]) (.cond (.tmp 68) (.seq
  (.reg [(none, (.mov (.const (.bool .false)), .some 2))] []) .ret) .skip)))))))
  (.reg [(none, (.mov (.tmp 3), .some 14)), (none, (.bin .add (.tmp 14) (.const (.int .i64 1)), .some 15)), (none, (.mov (.tmp 15), .some 3))] [])))))) (.seq
  (.reg [(none, (.call (.func 30) [], .some 69)), (none, (.mov (.tmp 69), .some 2))] []) .ret)))
theorem b14 : Try.f14.body.bind (compC Try.prog) = some c14 := by kernel_rfl
theorem r14 : compR Try.prog Try.f14 = .some [.tmp 2] := by kernel_rfl
theorem n14 : (Try.f14.name == "runtime.NumGoroutine") = false := by kernel_rfl
def c15 : C := .seq
  (.reg [(none, (.mov (.const (.bool .false)), .some 6))] []) (.seq (.seq
  (.reg [(none, (.mov (.tmp 0), .some 22)), (none, (.len .false (.tmp 22), .some 23)), (none, (.bin .gtr (.tmp 23) (.const (.int .i64 300)), .some 24))] []) (.cond (.tmp 24) (.seq
  (.reg [(none, (.call (.func 63) [], .some 25)), (none, (.mov (.tmp 25), .some 6))] []) .ret) .skip)) (.seq
  (.reg [(none, (.mov (.tmp 1), .some 26)), (none, (.mx .true (.tmp 26) (.const (.int .i64 0)), .some 27)), (none, (.mov (.tmp 0), .some 28)), (none, (.len .false (.tmp 28), .some 29)), (none, (.mx .false (.tmp 27) (.tmp 29), .some 30)), (none, (.mov (.tmp 30), .some 1))] []) (.seq
  (.reg [(none, (.mov (.tmp 0), .some 32)), (none, (.call (.func 64) [.tmp 32], .some 33)), (none, (.mov (.tmp 33), .some 31)), (none, (.ext (.tmp 31) 0, .some 34)), (none, (.ext (.tmp 31) 1, .some 35)), (none, (.ext (.tmp 31) 2, .some 36)), (none, (.new [.int .i64 0, .int .i64 0], .some 9)), (none, (.mov (.tmp 34), .some 7)), (none, (.mov (.tmp 35), .some 8)), (none, (.store 2 (.tmp 9) (.tmp 36), none))] []) (.seq
  (.reg [(none, (.mov (.tmp 0), .some 38)), (none, (.call (.func 80) [.tmp 38], .some 39)), (none, (.mov (.tmp 39), .some 37)), (none, (.ext (.tmp 37) 0, .some 40)), (none, (.ext (.tmp 37) 1, .some 41)), (none, (.ext (.tmp 37) 2, .some 42)), (none, (.new [.int .i64 0, .int .i64 0], .some 12)), (none, (.mov (.tmp 40), .some 10)), (none, (.mov (.tmp 41), .some 11)), (none, (.store 2 (.tmp 12) (.tmp 42), none))] []) (.seq (.seq
  (.reg [(none, (.mov (.tmp 7), .some 43)), (none, (.mov (.tmp 10), .some 44)), (none, (.bin .neq (.tmp 43) (.tmp 44), .some 45)), (none, (.mov (.tmp 45), .some 46)), (.some (46, .false), (.mov (.tmp 8), .some 47)), (.some (46, .false), (.mov (.tmp 11), .some 48)), (.some (46, .false), (.bin .neq (.tmp 47) (.tmp 48), .some 49)), (none, (.pick (.tmp 46) (.const (.bool .true)) (.tmp 49), .some 50)), (none, (.mov (.tmp 50), .some 51)), (.some (51, .false), (.load (.some 2) (.tmp 9), .some 52)), (.some (51, .false), (.load (.some 2) (.tmp 12), .some 53)), (.some (51, .false), (.eqa .true 2 (.tmp 52) (.tmp 53), .some 54)), (none, (.pick (.tmp 51) (.const (.bool .true)) (.tmp 54), .some 55))] []) (.cond (.tmp 55) (.seq
  (.reg [(none, (.mov (.const (.bool .false)), .some 6))] []) .ret) .skip)) (.seq
  (.reg [(none, (.new [.pointer none, .pointer none, .pointer none], .some 13))] []) (.seq (.seq
  (.reg [(none, (.mov (.const (.int .i64 0)), .some 14))] []) (.block 0 (.loop (.seq (.seq
  (.reg [(none, (.mov (.tmp 14), .some 56)), (none, (.bin .lss (.tmp 56) (.const (.int .i64 3)), .some 57))] []) (.cond (.tmp 57) .skip (.exit 0))) (.seq (.block 1 (.seq
  (.reg [(none, (.mov (.tmp 14), .some 60)), (none, (.mov (.tmp 0), .some 61)), (none, (.call (.func 73) [.tmp 61], .some 62)), (none, (.aadr 3 1 (.tmp 13) (.tmp 60), .some 63)), (none, (.store 1 (.tmp 63) (.tmp 62), none))] [])
  (.reg [(none, (.mov (.tmp 14), .some 64)), (none, (.aadr 3 1 (.tmp 13) (.tmp 64), .some 65)), (none, (.load none (.tmp 65), .some 66)), (none, (.mov (.tmp 1), .some 67)), (none, (.call (.func 81) [.tmp 66, .tmp 67], .some 68))] [])))
  (.reg [(none, (.mov (.tmp 14), .some 58)), (none, (.bin .add (.tmp 58) (.const (.int .i64 1)), .some 59)), (none, (.mov (.tmp 59), .some 14))] [])))))) (.seq
  (.reg [(none, (.mov (.tmp 0), .some 69)), (none, (.mov (.tmp 1), .some 70)), (none, (.build [.slice none 0 0, .int .i64 0, .int .i64 0, .int .i64 0] [(0, (1, .tmp 69)), (1, (1, .tmp 70))], .some 71)), (none, (.new [.slice none 0 0, .int .i64 0, .int .i64 0, .int .i64 0], .some 15)), (none, (.store 4 (.tmp 15) (.tmp 71), none))] []) (.seq
  (.reg [(none, (.load (.some 4) (.tmp 15), .some 73)), (none, (.call (.func 82) [.tmp 73], .some 74)), (none, (.mov (.tmp 74), .some 72)), (none, (.ext (.tmp 72) 0, .some 75)), (none, (.ext (.tmp 72) 1, .some 76)), (none, (.new [.slice none 0 0, .int .i64 0, .int .i64 0, .int .i64 0], .some 16)), (none, (.store 4 (.tmp 16) (.tmp 75), none)), (none, (.mov (.tmp 76), .some 17))] []) (.seq
  (.reg [(none, (.load (.some 4) (.tmp 15), .some 78)), (none, (.mov (.tmp 2), .some 79)), (none, (.cvt .u64 (.tmp 79), .some 80)), (none, (.call (.func 83) [.tmp 78, .tmp 80], .some 81)), (none, (.mov (.tmp 81), .some 77)), (none, (.ext (.tmp 77) 0, .some 82)), (none, (.ext (.tmp 77) 1, .some 83)), (none, (.new [.slice none 0 0, .int .i64 0, .int .i64 0, .int .i64 0], .some 18)), (none, (.store 4 (.tmp 18) (.tmp 82), none)), (none, (.mov (.tmp 83), .some 19))] []) (.seq
  (.reg [(none, (.load (.some 4) (.tmp 15), .some 85)), (none, (.mov (.tmp 2), .some 86)), (none, (.call (.func 84) [.tmp 85, .tmp 86], .some 87)), (none, (.mov (.tmp 87), .some 84)), (none, (.ext (.tmp 84) 0, .some 88)), (none, (.ext (.tmp 84) 1, .some 89)), (none, (.new [.slice none 0 0, .int .i64 0, .int .i64 0, .int .i64 0], .some 20)), (none, (.store 4 (.tmp 20) (.tmp 88), none)), (none, (.mov (.tmp 89), .some 21))] []) (.seq (.seq
  (.reg [(none, (.aadr 3 1 (.tmp 13) (.const (.int .i64 0)), .some 90)), (none, (.load none (.tmp 90), .some 91)), (none, (.call (.func 85) [.tmp 91], .some 92)), (none, (.mov (.tmp 17), .some 93)), (none, (.bin .neq (.tmp 92) (.tmp 93), .some 94)), (none, (.mov (.tmp 94), .some 95)), (.some (95, .false), (.aadr 3 1 (.tmp 13) (.const (.int .i64 1)), .some 96)), (.some (95, .false), (.load none (.tmp 96), .some 97)), (.some (95, .false), (.mov (.tmp 2), .some 98)), (.some (95, .false), (.cvt .u64 (.tmp 98), .some 99)), (.some (95, .false), (.call (.func 86) [.tmp 97, .tmp 99], .some 100)), (.some (95, .false), (.mov (.tmp 19), .some 101)), (.some (95, .false), (.bin .neq (.tmp 100) (.tmp 101), .some 102)), (none, (.pick (.tmp 95) (.const (.bool .true)) (.tmp 102), .some 103)), (none, (.mov (.tmp 103), .some 104)), (.some (104, .false), (.aadr 3 1 (.tmp 13) (.const (.int .i64 2)), .some 105)), (.some (104, .false), (.load none (.tmp 105), .some 106)), (.some (104, .false), (.mov (.tmp 2), .some 107)), (.some (104, .false), (.call (.func 87) [.tmp 106, .tmp 107], .some 108)), (.some (104, .false), (.mov (.tmp 21), .some 109)), (.some (104, .false), (.bin .neq (.tmp 108) (.tmp 109), .some 110)), (none, (.pick (.tmp 104) (.const (.bool .true)) (.tmp 110), .some 111))] []) (.cond (.tmp 111) (.seq
  (.reg [(none, (.mov (.const (.bool .false)), .some 6))] []) .ret) .skip)) (.seq
  (.reg [(none, (.aadr 3 1 (.tmp 13) (.const (.int .i64 0)), .some 112)), (none, (.load none (.tmp 112), .some 113)), (none, (.call (.func 78) [.tmp 113], .some 114)), (none, (.fadr 2 (.tmp 16), .some 115)), (none, (.load (.some 2) (.tmp 115), .some 116)), (none, (.eqa .false 2 (.tmp 114) (.tmp 116), .some 117)), (none, (.mov (.tmp 117), .some 118)), (.some (118, .true), (.aadr 3 1 (.tmp 13) (.const (.int .i64 1)), .some 119)), (.some (118, .true), (.load none (.tmp 119), .some 120)), (.some (118, .true), (.call (.func 78) [.tmp 120], .some 121)), (.some (118, .true), (.fadr 2 (.tmp 18), .some 122)), (.some (118, .true), (.load (.some 2) (.tmp 122), .some 123)), (.some (118, .true), (.eqa .false 2 (.tmp 121) (.tmp 123), .some 124)), (none, (.pick (.tmp 118) (.tmp 124) (.const (.bool .false)), .some 125)), (none, (.mov (.tmp 125), .some 126)), (.some (126, .true), (.aadr 3 1 (.tmp 13) (.const (.int .i64 2)), .some 127)), (.some (126, .true), (.load none (.tmp 127), .some 128)), (.some (126, .true), (.call (.func 78) [.tmp 128], .some 129)), (.some (126, .true), (.fadr 2 (.tmp 20), .some 130)), (.some (126, .true), (.load (.some 2) (.tmp 130), .some 131)), (.some (126, .true), (.eqa .false 2 (.tmp 129) (.tmp 131), .some 132)), (none, (.pick (.tmp 126) (.tmp 132) (.const (.bool .false)), .some 133)), (none, (.mov (.tmp 133), .some 134)), (.some (134, .true), (.fadr 2 (.tmp 16), .some 135)), (.some (134, .true), (.fadr 0 (.tmp 135), .some 136)), (.some (134, .true), (.load none (.tmp 136), .some 137)), (.some (134, .true), (.bin .neq (.tmp 137) (.const (.int .i64 0)), .some 138)), (.some (134, .true), (.mov (.tmp 138), .some 139)), (.some (139, .false), (.aadr 3 1 (.tmp 13) (.const (.int .i64 0)), .some 140)), (.some (139, .false), (.load none (.tmp 140), .some 141)), (.some (139, .false), (.call (.func 79) [.tmp 141], .some 142)), (.some (139, .false), (.fadr 1 (.tmp 16), .some 143)), (.some (139, .false), (.load none (.tmp 143), .some 144)), (.some (139, .false), (.bin .eql (.tmp 142) (.tmp 144), .some 145)), (.some (134, .true), (.pick (.tmp 139) (.const (.bool .true)) (.tmp 145), .some 146)), (none, (.pick (.tmp 134) (.tmp 146) (.const (.bool .false)), .some 147)), (none, (.mov (.tmp 147), .some 148)), (.some (148, .true), (.call (.func 63) [], .some 149)), (none, (.pick (.tmp 148) (.tmp 149) (.const (.bool .false)), .some 150)), (none, (.mov (.tmp 150), .some 6))] [(1, 4), (2, 4), (8, 11), (9, 11), (16, 19), (17, 19), (29, 32), (30, 32)]) .ret)))))))))))))
theorem b15 : Try.f15.body.bind (compC Try.prog) = some c15 := by kernel_rfl
theorem r15 : compR Try.prog Try.f15 = .some [.tmp 6] := by kernel_rfl
theorem n15 : (Try.f15.name == "runtime.NumGoroutine") = false := by kernel_rfl
def c20 : C := .seq
  (.reg [(none, (.mov (.const (.bool .false)), .some 2))] []) (.seq (.seq
  (.reg [(none, (.mov (.tmp 0), .some 7)), (none, (.len .false (.tmp 7), .some 8)), (none, (.bin .gtr (.tmp 8) (.const (.int .i64 300)), .some 9))] []) (.cond (.tmp 9) (.seq
  (.reg [(none, (.call (.func 43) [], .some 10)), (none, (.mov (.tmp 10), .some 2))] []) .ret) .skip)) (.seq
  (.reg [(none, (.mov (.tmp 0), .some 11)), (none, (.call (.func 73) [.tmp 11], .some 12)), (none, (.mov (.tmp 0), .some 13)), (none, (.call (.func 73) [.tmp 13], .some 14)), (none, (.mov (.tmp 12), .some 3)), (none, (.mov (.tmp 14), .some 4))] []) (.seq
  (.reg [(none, (.mov (.tmp 3), .some 15)), (none, (.call (.func 100) [.tmp 15, .const (.int .i64 300)], .some 16)), (none, (.mov (.tmp 4), .some 17)), (none, (.call (.func 101) [.tmp 17, .const (.int .i64 300)], .some 18)), (none, (.mov (.tmp 16), .some 5)), (none, (.mov (.tmp 18), .some 6))] []) (.seq (.seq
  (.reg [(none, (.mov (.tmp 3), .some 19)), (none, (.call (.func 102) [.tmp 19], .some 20)), (none, (.mov (.tmp 20), .some 21)), (.some (21, .true), (.mov (.tmp 5), .some 22)), (.some (21, .true), (.call (.func 46) [.tmp 22], .some 23)), (.some (21, .true), (.mov (.tmp 0), .some 24)), (.some (21, .true), (.mov (.tmp 3), .some 25)), (.some (21, .true), (.call (.func 79) [.tmp 25], .some 26)), (.some (21, .true), (.slice 1 (.tmp 24) none (.some (.tmp 26)) none, .some 27)), (.some (21, .true), (.call (.func 41) [.tmp 23, .tmp 27], .some 28)), (.some (21, .true), (.un .not (.tmp 28), .some 29)), (none, (.pick (.tmp 21) (.tmp 29) (.const (.bool .false)), .some 30)), (none, (.mov (.tmp 30), .some 31)), (.some (31, .false), (.mov (.tmp 4), .some 32)), (.some (31, .false), (.call (.func 102) [.tmp 32], .some 33)), (.some (31, .false), (.mov (.tmp 33), .some 34)), (.some (34, .true), (.mov (.tmp 6), .some 35)), (.some (34, .true), (.call (.func 47) [.tmp 35], .some 36)), (.some (34, .true), (.mov (.tmp 0), .some 37)), (.some (34, .true), (.mov (.tmp 4), .some 38)), (.some (34, .true), (.call (.func 79) [.tmp 38], .some 39)), (.some (34, .true), (.slice 1 (.tmp 37) none (.some (.tmp 39)) none, .some 40)), (.some (34, .true), (.call (.func 41) [.tmp 36, .tmp 40], .some 41)), (.some (34, .true), (.un .not (.tmp 41), .some 42)), (.some (31, .false), (.pick (.tmp 34) (.tmp 42) (.const (.bool .false)), .some 43)), (none, (.pick (.tmp 31) (.const (.bool .true)) (.tmp 43), .some 44))] []) (.cond (.tmp 44) (.seq
  (.reg [(none, (.mov (.const (.bool .false)), .some 2))] []) .ret) .skip)) (.seq
  (.reg [(none, (.mov (.tmp 3), .some 45)), (none, (.call (.func 102) [.tmp 45], .some 46)), (none, (.mov (.tmp 46), .some 47)), (.some (47, .false), (.mov (.tmp 5), .some 48)), (.some (47, .false), (.len .false (.tmp 48), .some 49)), (.some (47, .false), (.bin .eql (.tmp 49) (.const (.int .i64 0)), .some 50)), (none, (.pick (.tmp 47) (.const (.bool .true)) (.tmp 50), .some 51)), (none, (.mov (.tmp 51), .some 52)), (.some (52, .true), (.mov (.tmp 4), .some 53)), (.some (52, .true), (.call (.func 102) [.tmp 53], .some 54)), (.some (52, .true), (.mov (.tmp 54), .some 55)), (.some (55, .false), (.mov (.tmp 6), .some 56)), (.some (55, .false), (.len .false (.tmp 56), .some 57)), (.some (55, .false), (.bin .eql (.tmp 57) (.const (.int .i64 0)), .some 58)), (.some (52, .true), (.pick (.tmp 55) (.const (.bool .true)) (.tmp 58), .some 59)), (none, (.pick (.tmp 52) (.tmp 59) (.const (.bool .false)), .some 60)), (none, (.mov (.tmp 60), .some 61)), (.some (61, .true), (.call (.func 43) [], .some 62)), (none, (.pick (.tmp 61) (.tmp 62) (.const (.bool .false)), .some 63)), (none, (.mov (.tmp 63), .some 2))] []) .ret)))))
theorem b20 : Try.f20.body.bind (compC Try.prog) = some c20 := by kernel_rfl
theorem r20 : compR Try.prog Try.f20 = .some [.tmp 2] := by kernel_rfl
theorem n20 : (Try.f20.name == "runtime.NumGoroutine") = false := by kernel_rfl
def c24 : C := .seq
  (.reg [(none, (.mov (.const (.bool .false)), .some 6))] []) (.seq (.seq
  (.reg [(none, (.mov (.tmp 0), .some 14)), (none, (.len .false (.tmp 14), .some 15)), (none, (.bin .gtr (.tmp 15) (.const (.int .i64 300)), .some 16)), (none, (.mov (.tmp 16), .some 17)), (.some (17, .false), (.mov (.tmp 1), .some 18)), (.some (17, .false), (.len .false (.tmp 18), .some 19)), (.some (17, .false), (.bin .gtr (.tmp 19) (.const (.int .i64 200)), .some 20)), (none, (.pick (.tmp 17) (.const (.bool .true)) (.tmp 20), .some 21))] []) (.cond (.tmp 21) (.seq
  (.reg [(none, (.call (.func 43) [], .some 22)), (none, (.mov (.tmp 22), .some 6))] []) .ret) .skip)) (.seq
  (.reg [(none, (.call (.func 37) [.const (.int .i64 6000)], .some 23)), (none, (.mov (.tmp 23), .some 7))] []) (.seq
  (.reg [(none, (.mov (.tmp 7), .some 24)), (none, (.mov (.tmp 0), .some 25)), (none, (.call (.func 44) [.tmp 24, .tmp 25], .some 26))] []) (.seq
  (.reg [(none, (.mov (.tmp 7), .some 27)), (none, (.mov (.tmp 1), .some 28)), (none, (.call (.func 45) [.tmp 27, .tmp 28], .some 29))] []) (.seq
  (.reg [(none, (.mov (.tmp 7), .some 30)), (none, (.mov (.tmp 2), .some 31)), (none, (.call (.func 110) [.tmp 30, .tmp 31, .const (.int .i64 8)], .some 32))] []) (.seq
  (.reg [(none, (.mov (.tmp 7), .some 33)), (none, (.mov (.tmp 0), .some 34)), (none, (.call (.func 90) [.tmp 33, .tmp 34], .some 35))] []) (.seq
  (.reg [(none, (.mov (.tmp 7), .some 37)), (none, (.call (.func 40) [.tmp 37], .some 38)), (none, (.mov (.tmp 38), .some 36)), (none, (.ext (.tmp 36) 0, .some 39)), (none, (.ext (.tmp 36) 1, .some 40)), (none, (.mov (.tmp 39), .some 8)), (none, (.mov (.tmp 40), .some 9))] []) (.seq
  (.reg [(none, (.mov (.tmp 8), .some 41)), (none, (.call (.func 73) [.tmp 41], .some 42)), (none, (.mov (.tmp 42), .some 10))] []) (.seq
  (.reg [(none, (.mov (.tmp 10), .some 43)), (none, (.call (.func 100) [.tmp 43, .const (.int .i64 300)], .some 44)), (none, (.mov (.tmp 10), .some 45)), (none, (.call (.func 101) [.tmp 45, .const (.int .i64 200)], .some 46)), (none, (.mov (.tmp 10), .some 47)), (none, (.call (.func 109) [.tmp 47, .const (.int .i64 8)], .some 48)), (none, (.mov (.tmp 44), .some 11)), (none, (.mov (.tmp 46), .some 12)), (none, (.mov (.tmp 48), .some 13))] []) (.seq
  (.reg [(none, (.mov (.tmp 9), .some 49)), (none, (.bin .eql (.tmp 49) (.const (.int .i64 0)), .some 50)), (none, (.mov (.tmp 50), .some 51)), (.some (51, .true), (.mov (.tmp 10), .some 52)), (.some (51, .true), (.call (.func 102) [.tmp 52], .some 53)), (none, (.pick (.tmp 51) (.tmp 53) (.const (.bool .false)), .some 54)), (none, (.mov (.tmp 54), .some 55)), (.some (55, .true), (.mov (.tmp 11), .some 56)), (.some (55, .true), (.mov (.tmp 0), .some 57)), (.some (55, .true), (.call (.func 41) [.tmp 56, .tmp 57], .some 58)), (none, (.pick (.tmp 55) (.tmp 58) (.const (.bool .false)), .some 59)), (none, (.mov (.tmp 59), .some 60)), (.some (60, .true), (.mov (.tmp 12), .some 61)), (.some (60, .true), (.mov (.tmp 1), .some 62)), (.some (60, .true), (.call (.func 54) [.tmp 61, .tmp 62], .some 63)), (none, (.pick (.tmp 60) (.tmp 63) (.const (.bool .false)), .some 64)), (none, (.mov (.tmp 64), .some 65)), (.some (65, .true), (.mov (.tmp 13), .some 66)), (.some (65, .true), (.mov (.tmp 2), .some 67)), (.some (65, .true), (.bin .eql (.tmp 66) (.tmp 67), .some 68)), (none, (.pick (.tmp 65) (.tmp 68) (.const (.bool .false)), .some 69)), (none, (.mov (.tmp 69), .some 70)), (.some (70, .true), (.mov (.tmp 10), .some 71)), (.some (70, .true), (.call (.func 111) [.tmp 71], .some 72)), (.some (70, .true), (.mov (.tmp 0), .some 73)), (.some (70, .true), (.len .false (.tmp 73), .some 74)), (.some (70, .true), (.bin .eql (.tmp 72) (.tmp 74), .some 75)), (none, (.pick (.tmp 70) (.tmp 75) (.const (.bool .false)), .some 76)), (none, (.mov (.tmp 76), .some 77)), (.some (77, .true), (.call (.func 43) [], .some 78)), (none, (.pick (.tmp 77) (.tmp 78) (.const (.bool .false)), .some 79)), (none, (.mov (.tmp 79), .some 6))] []) .ret))))))))))
theorem b24 : Try.f24.body.bind (compC Try.prog) = some c24 := by kernel_rfl
theorem r24 : compR Try.prog Try.f24 = .some [.tmp 6] := by kernel_rfl
theorem n24 : (Try.f24.name == "runtime.NumGoroutine") = false := by kernel_rfl
def c33 : C := .seq
  (.reg [(none, (.mov (.const (.int .u64 0)), .some 2)), (none, (.mov (.const (.bool .false)), .some 3))] []) (.seq
  (.reg [(none, (.mov (.const (.int .u64 0)), .some 4))] []) (.seq (.seq
  (.reg [(none, (.mov (.tmp 0), .some 7)), (none, (.len .false (.tmp 7), .some 8)), (none, (.mov (.const (.int .i64 0)), .some 9))] []) (.block 0 (.loop (.seq
  (.reg [(none, (.bin .lss (.tmp 9) (.tmp 8), .some 10))] []) (.seq (.cond (.tmp 10) .skip (.exit 0)) (.seq (.block 1 (.seq
  (.reg [(none, (.iadr 1 (.tmp 7) (.tmp 9), .some 11)), (none, (.load none (.tmp 11), .some 12)), (none, (.mov (.tmp 12), .some 6))] []) (.seq (.seq
  (.reg [(none, (.mov (.tmp 6), .some 13)), (none, (.call (.func 34) [.tmp 13], .some 14)), (none, (.un .not (.tmp 14), .some 15))] []) (.cond (.tmp 15) (.seq
  (.reg [(none, (.mov (.const (.int .u64 0)), .some 2)), (none, (.mov (.const (.bool .false)), .some 3))] []) .ret) .skip))
  (.reg [(none, (.mov (.tmp 4), .some 16)), (none, (.mov (.tmp 6), .some 17)), (none, (.mx .true (.tmp 16) (.tmp 17), .some 18)), (none, (.mov (.tmp 18), .some 4))] []))))
  (.reg [(none, (.bin .add (.tmp 9) (.const (.int .i64 1)), .some 19)), (none, (.mov (.tmp 19), .some 9))] []))))))) (.seq
  (.reg [(none, (.mov (.tmp 4), .some 20)), (none, (.mov (.tmp 4), .some 21)), (none, (.bin .gtr (.tmp 21) (.const (.int .u64 0)), .some 22)), (none, (.mov (.tmp 20), .some 2)), (none, (.mov (.tmp 22), .some 3))] []) .ret)))
theorem b33 : Try.f33.body.bind (compC Try.prog) = some c33 := by kernel_rfl
theorem r33 : compR Try.prog Try.f33 = .some [.tmp 2, .tmp 3] := by kernel_rfl
theorem n33 : (Try.f33.name == "runtime.NumGoroutine") = false := by kernel_rfl
def c35 : C := .seq
  (.reg [(none, (.mov (.const (.bool .false)), .some 2))] []) (.seq
  (.reg [(none, (.mov (.tmp 0), .some 3)), (none, (.bin .lss (.tmp 3) (.const (.int .u64 4611686018427387904)), .some 4)), (none, (.mov (.tmp 4), .some 2))] []) .ret)
theorem b35 : Try.f35.body.bind (compC Try.prog) = some c35 := by kernel_rfl
theorem r35 : compR Try.prog Try.f35 = .some [.tmp 2] := by kernel_rfl
theorem n35 : (Try.f35.name == "runtime.NumGoroutine") = false := by kernel_rfl
def c38 : C := .reg [(none, (.mov (.tmp 0), .some 4)), (none, (.mov (.tmp 1), .some 5)), (none, (.mov (.tmp 1), .some 6)), (none, (.call (.func 34) [.tmp 6], .some 7)), (none, (.call (.func 122) [.tmp 4, .tmp 5, .tmp 7], .some 8))] []
theorem b38 : Try.f38.body.bind (compC Try.prog) = some c38 := by kernel_rfl
theorem r38 : compR Try.prog Try.f38 = .some [] := by kernel_rfl
theorem n38 : (Try.f38.name == "runtime.NumGoroutine") = false := by kernel_rfl
def c42 : C := .seq
  (.reg [(none, (.mov (.const (.slice none 0 0)), .some 2))] []) (.seq (.seq
  (.reg [(none, (.mov (.tmp 0), .some 3)), (none, (.bin .lss (.tmp 3) (.const (.int .u64 128)), .some 4))] []) (.cond (.tmp 4) (.seq
  (.reg [(none, (.mov (.tmp 0), .some 5)), (none, (.cvt .u8 (.tmp 5), .some 6)), (none, (.bsl 1 [.tmp 6], .some 7)), (none, (.mov (.tmp 7), .some 2))] []) .ret) .skip)) (.seq
  (.reg [(none, (.mov (.tmp 0), .some 8)), (none, (.bin .rem (.tmp 8) (.const (.int .u64 128)), .some 9)), (none, (.bin .add (.const (.int .u64 128)) (.tmp 9), .some 10)), (none, (.cvt .u8 (.tmp 10), .some 11)), (none, (.bsl 1 [.tmp 11], .some 12)), (none, (.mov (.tmp 0), .some 13)), (none, (.bin .quo (.tmp 13) (.const (.int .u64 128)), .some 14)), (none, (.call (.func 42) [.tmp 14], .some 15)), (none, (.app 1 1 (.tmp 12) (.tmp 15), .some 16)), (none, (.mov (.tmp 16), .some 2))] []) .ret))
theorem b42 : Try.f42.body.bind (compC Try.prog) = some c42 := by kernel_rfl
theorem r42 : compR Try.prog Try.f42 = .some [.tmp 2] := by kernel_rfl
theorem n42 : (Try.f42.name == "runtime.NumGoroutine") = false := by kernel_rfl
def c47 : C := .seq
  (.reg [(none, (.mov (.const (.slice none 0 0)), .some 2))] []) (.seq
  (.reg [(none, (.mov (.tmp 0), .some 5)), (none, (.len .false (.tmp 5), .some 6)), (none, (.cvt .u64 (.tmp 6), .some 7)), (none, (.call (.func 42) [.tmp 7], .some 8)), (none, (.mov (.tmp 8), .some 3))] []) (.seq (.seq
  (.reg [(none, (.mov (.const (.int .i64 0)), .some 4))] []) (.block 0 (.loop (.seq (.seq
  (.reg [(none, (.mov (.tmp 4), .some 9)), (none, (.mov (.tmp 0), .some 10)), (none, (.len .false (.tmp 10), .some 11)), (none, (.bin .lss (.tmp 9) (.tmp 11), .some 12))] []) (.cond (.tmp 12) .skip (.exit 0))) (.seq (.block 1
  (.reg [(none, (.mov (.tmp 3), .some 15)), (none, (.mov (.tmp 0), .some 16)), (none, (.mov (.tmp 4), .some 17)), (none, (.iadr 1 (.tmp 16) (.tmp 17), .some 18)), (none, (.load none (.tmp 18), .some 19)), (none, (.call (.func 42) [.tmp 19], .some 20)), (none, (.app 1 1 (.tmp 15) (.tmp 20), .some 21)), (none, (.mov (.tmp 21), .some 3))] []))
  (.reg [(none, (.mov (.tmp 4), .some 13)), (none, (.bin .add (.tmp 13) (.const (.int .i64 1)), .some 14)), (none, (.mov (.tmp 14), .some 4))] [])))))) (.seq
  (.reg [(none, (.mov (.tmp 3), .some 22)), (none, (.mov (.tmp 22), .some 2))] []) .ret)))
theorem b47 : Try.f47.body.bind (compC Try.prog) = some c47 := by kernel_rfl
theorem r47 : compR Try.prog Try.f47 = .some [.tmp 2] := by kernel_rfl
theorem n47 : (Try.f47.name == "runtime.NumGoroutine") = false := by kernel_rfl
def c49 : C := .seq
  (.reg [(none, (.mov (.const (.int .i64 0)), .some 2))] []) (.seq
  (.reg [(none, (.mov (.tmp 0), .some 6)), (none, (.len .false (.tmp 6), .some 7)), (none, (.cvt .u64 (.tmp 7), .some 8)), (none, (.call (.func 72) [.tmp 8], .some 9)), (none, (.mov (.tmp 9), .some 3))] []) (.seq (.seq
  (.reg [(none, (.mov (.tmp 0), .some 10)), (none, (.len .false (.tmp 10), .some 11)), (none, (.mov (.const (.int .i64 0)), .some 12))] []) (.block 0 (.loop (.seq
  (.reg [(none, (.bin .lss (.tmp 12) (.tmp 11), .some 13))] []) (.seq (.cond (.tmp 13) .skip (.exit 0)) (.seq (.block 1 (.seq
  (.reg [(none, (.iadr 1 (.tmp 10) (.tmp 12), .some 14)), (none, (.load none (.tmp 14), .some 15)), (none, (.mov (.tmp 15), .some 5))] [])
  (.reg [(none, (.mov (.tmp 3), .some 16)), (none, (.mov (.tmp 5), .some 17)), (none, (.call (.func 72) [.tmp 17], .some 18)), (none, (.bin .add (.tmp 16) (.tmp 18), .some 19)), (none, (.mov (.tmp 19), .some 3))] [])))
  (.reg [(none, (.bin .add (.tmp 12) (.const (.int .i64 1)), .some 20)), (none, (.mov (.tmp 20), .some 12))] []))))))) (.seq
  (.reg [(none, (.mov (.tmp 3), .some 21)), (none, (.mov (.tmp 21), .some 2))] []) .ret)))
theorem b49 : Try.f49.body.bind (compC Try.prog) = some c49 := by kernel_rfl
theorem r49 : compR Try.prog Try.f49 = .some [.tmp 2] := by kernel_rfl
theorem n49 : (Try.f49.name == "runtime.NumGoroutine") = false := by kernel_rfl
def c51 : C := .seq
  (.reg [(none, (.mov (.const (.bool .false)), .some 0))] []) (.seq
  (.reg [(none, (.call (.func 37) [.const (.int .i64 9)], .some 4)), (none, (.mov (.tmp 4), .some 1))] []) (.seq
  (.reg [(none, (.mov (.tmp 1), .some 5)), (none, (.bsl 1 [.const (.int .u64 99), .const (.int .u64 90), .const (.int .u64 0)], .some 6)), (none, (.call (.func 112) [.tmp 5, .const (.int .u64 100), .tmp 6], .some 7))] []) (.seq
  (.reg [(none, (.mov (.tmp 1), .some 9)), (none, (.call (.func 40) [.tmp 9], .some 10)), (none, (.mov (.tmp 10), .some 8)), (none, (.ext (.tmp 8) 0, .some 11)), (none, (.ext (.tmp 8) 1, .some 12)), (none, (.mov (.tmp 11), .some 2)), (none, (.mov (.tmp 12), .some 3))] []) (.seq
  (.reg [(none, (.mov (.tmp 3), .some 13)), (none, (.bin .eql (.tmp 13) (.const (.int .i64 0)), .some 14)), (none, (.mov (.tmp 14), .some 15)), (.some (15, .true), (.mov (.tmp 2), .some 16)), (.some (15, .true), (.bsl 1 [.const (.int .u8 3), .const (.int .u8 0), .const (.int .u8 8), .const (.int .u8 89)], .some 17)), (.some (15, .true), (.call (.func 41) [.tmp 16, .tmp 17], .some 18)), (none, (.pick (.tmp 15) (.tmp 18) (.const (.bool .false)), .some 19)), (none, (.mov (.tmp 19), .some 0))] []) .ret))))
theorem b51 : Try.f51.body.bind (compC Try.prog) = some c51 := by kernel_rfl
theorem r51 : compR Try.prog Try.f51 = .some [.tmp 0] := by kernel_rfl
theorem n51 : (Try.f51.name == "runtime.NumGoroutine") = false := by kernel_rfl
def c55 : C := .seq
  (.reg [(none, (.mov (.const (.bool .false)), .some 4))] []) (.seq
  (.reg [(none, (.mov (.tmp 0), .some 8)), (none, (.mov (.tmp 1), .some 9)), (none, (.call (.func 52) [.tmp 8, .tmp 9], .some 10)), (none, (.mov (.tmp 10), .some 7)), (none, (.ext (.tmp 7) 0, .some 11)), (none, (.ext (.tmp 7) 1, .some 12)), (none, (.mov (.tmp 11), .some 5)), (none, (.mov (.tmp 12), .some 6))] []) (.seq
  (.reg [(none, (.mov (.tmp 6), .some 13)), (none, (.mov (.tmp 13), .some 4))] []) .ret))
theorem b55 : Try.f55.body.bind (compC Try.prog) = some c55 := by kernel_rfl
theorem r55 : compR Try.prog Try.f55 = .some [.tmp 4] := by kernel_rfl
theorem n55 : (Try.f55.name == "runtime.NumGoroutine") = false := by kernel_rfl
def c56 : C := .seq
  (.reg [(none, (.mov (.const (.slice none 0 0)), .some 4))] []) (.seq
  (.reg [(none, (.mov (.const (.slice none 0 0)), .some 5))] []) (.seq (.seq
  (.reg [(none, (.mov (.const (.int .i64 0)), .some 6))] []) (.block 0 (.loop (.seq (.seq
  (.reg [(none, (.mov (.tmp 6), .some 8)), (none, (.mov (.tmp 1), .some 9)), (none, (.len .false (.tmp 9), .some 10)), (none, (.bin .lss (.tmp 8) (.tmp 10), .some 11))] []) (.cond (.tmp 11) .skip (.exit 0))) (.seq (.block 1 (.seq
  (.reg [(none, (.mov (.tmp 0), .some 14)), (none, (.mov (.tmp 14), .some 7))] []) (.seq (.seq
  (.reg [(none, (.mov (.tmp 6), .some 15)), (none, (.bin .gtr (.tmp 15) (.const (.int .i64 0)), .some 16))] []) (.cond (.tmp 16)
  (.reg [(none, (.mov (.tmp 1), .some 17)), (none, (.mov (.tmp 6), .some 18)), (none, (.bin .sub (.tmp 18) (.const (.int .i64 1)), .some 19)), (none, (.iadr 1 (.tmp 17) (.tmp 19), .some 20)), (none, (.load none (.tmp 20), .some 21)), (none, (.mov (.tmp 21), .some 7))] []) .skip))
  (.reg [(none, (.mov (.tmp 5), .some 22)), (none, (.mov (.tmp 7), .some 23)), (none, (.bin .sub (.tmp 23) (.const (.int .u64 1)), .some 24)), (none, (.mov (.tmp 1), .some 25)), (none, (.mov (.tmp 6), .some 26)), (none, (.iadr 1 (.tmp 25) (.tmp 26), .some 27)), (none, (.load none (.tmp 27), .some 28)), (none, (.bin .sub (.tmp 24) (.tmp 28), .some 29)), (none, (.bsl 1 [.tmp 29], .some 30)), (none, (.app 1 8 (.tmp 22) (.tmp 30), .some 31)), (none, (.mov (.tmp 31), .some 5))] []))))
  (.reg [(none, (.mov (.tmp 6), .some 12)), (none, (.bin .add (.tmp 12) (.const (.int .i64 1)), .some 13)), (none, (.mov (.tmp 13), .some 6))] [])))))) (.seq
  (.reg [(none, (.mov (.tmp 5), .some 32)), (none, (.mov (.tmp 32), .some 4))] []) .ret)))
theorem b56 : Try.f56.body.bind (compC Try.prog) = some c56 := by kernel_rfl
theorem r56 : compR Try.prog Try.f56 = .some [.tmp 4] := by kernel_rfl
theorem n56 : (Try.f56.name == "runtime.NumGoroutine") = false := by kernel_rfl
def c68 : C := .seq
  (.reg [(none, (.mov (.const (.int .u64 0)), .some 2)), (none, (.mov (.const (.int .u64 0)), .some 3))] []) (.seq (.seq
  (.reg [(none, (.mov (.tmp 0), .some 4)), (none, (.len .false (.tmp 4), .some 5)), (none, (.bin .eql (.tmp 5) (.const (.int .i64 0)), .some 6)), (none, (.mov (.tmp 6), .some 7)), (.some (7, .false), (.mov (.tmp 0), .some 8)), (.some (7, .false), (.call (.func 120) [.tmp 8], .some 9)), (.some (7, .false), (.un .not (.tmp 9), .some 10)), (none, (.pick (.tmp 7) (.const (.bool .true)) (.tmp 10), .some 11))] []) (.cond (.tmp 11) (.seq
  (.reg [(none, (.mov (.const (.int .u64 0)), .some 2)), (none, (.mov (.const (.int .u64 0)), .some 3))] []) .ret) .skip)) (.seq
  (.reg [(none, (.mov (.tmp 0), .some 12)), (none, (.iadr 3 (.tmp 12) (.const (.int .i64 0)), .some 13)), (none, (.fadr 0 (.tmp 13), .some 14)), (none, (.load none (.tmp 14), .some 15)), (none, (.mov (.tmp 0), .some 16)), (none, (.mov (.tmp 0), .some 17)), (none, (.len .false (.tmp 17), .some 18)), (none, (.bin .sub (.tmp 18) (.const (.int .i64 1)), .some 19)), (none, (.iadr 3 (.tmp 16) (.tmp 19), .some 20)), (none, (.load (.some 3) (.tmp 20), .some 21)), (none, (.call (.func 126) [.tmp 21], .some 22)), (none, (.mov (.tmp 15), .some 2)), (none, (.mov (.tmp 22), .some 3))] [(3, 9), (3, 10)]) .ret))
theorem b68 : Try.f68.body.bind (compC Try.prog) = some c68 := by kernel_rfl
theorem r68 : compR Try.prog Try.f68 = .some [.tmp 2, .tmp 3] := by kernel_rfl
theorem n68 : (Try.f68.name == "runtime.NumGoroutine") = false := by kernel_rfl
def c75 : C := .seq
  (.reg [(none, (.mov (.const (.int .u64 0)), .some 2))] []) (.seq
  (.reg [(none, (.mov (.tmp 0), .some 3)), (none, (.call (.func 127) [.tmp 3, .func 35], .some 4)), (none, (.mov (.tmp 4), .some 2))] []) .ret)
theorem b75 : Try.f75.body.bind (compC Try.prog) = some c75 := by kernel_rfl
theorem r75 : compR Try.prog Try.f75 = .some [.tmp 2] := by kernel_rfl
theorem n75 : (Try.f75.name == "runtime.NumGoroutine") = false := by kernel_rfl
def c81 : C := .seq
  (.reg [(none, (.mov (.const (.bool .false)), .some 4))] []) (.seq (.block 0 (.seq
  (.reg [(none, (.mov (.tmp 0), .some 6)), (none, (.call (.func 102) [.tmp 6], .some 7)), (none, (.un .not (.tmp 7), .some 8)), (none, (.mov (.tmp 8), .some 5))] []) (.cond (.tmp 5) (.seq
  (.reg [(none, (.mov (.const (.bool .false)), .some 4))] []) .ret) (.seq
  (.reg [(none, (.mov (.tmp 1), .some 10)), (none, (.bin .lss (.tmp 10) (.const (.int .i64 0)), .some 11)), (none, (.mov (.tmp 11), .some 9))] []) (.cond (.tmp 9) (.seq
  (.reg [(none, (.mov (.tmp 0), .some 12)), (none, (.mov (.tmp 0), .some 13)), (none, (.nilc (.tmp 13), .some 14)), (none, (.fadr 1 (.tmp 14), .some 15)), (none, (.load none (.tmp 15), .some 16)), (none, (.call (.func 132) [.tmp 12, .const (.int .i64 17), .tmp 16], .some 17))] []) (.seq
  (.reg [(none, (.mov (.const (.bool .false)), .some 4))] []) .ret)) (.seq
  (.reg [(none, (.mov (.tmp 1), .some 19)), (none, (.mov (.tmp 0), .some 20)), (none, (.call (.func 111) [.tmp 20], .some 21)), (none, (.bin .gtr (.tmp 19) (.tmp 21), .some 22)), (none, (.mov (.tmp 22), .some 18))] []) (.cond (.tmp 18) (.seq
  (.reg [(none, (.mov (.tmp 0), .some 23)), (none, (.mov (.tmp 0), .some 24)), (none, (.nilc (.tmp 24), .some 25)), (none, (.fadr 0 (.tmp 25), .some 26)), (none, (.load none (.tmp 26), .some 27)), (none, (.len .false (.tmp 27), .some 28)), (none, (.call (.func 132) [.tmp 23, .const (.int .i64 1), .tmp 28], .some 29))] []) (.seq
  (.reg [(none, (.mov (.const (.bool .false)), .some 4))] []) .ret)) .skip))))))) (.seq
  (.reg [(none, (.mov (.tmp 0), .some 30)), (none, (.nilc (.tmp 30), .some 31)), (none, (.fadr 1 (.tmp 31), .some 32)), (none, (.load none (.tmp 32), .some 33)), (none, (.mov (.tmp 1), .some 34)), (none, (.bin .add (.tmp 33) (.tmp 34), .some 35)), (none, (.nilc (.tmp 30), .some 36)), (none, (.fadr 1 (.tmp 36), .some 37)), (none, (.store 1 (.tmp 37) (.tmp 35), none))] []) (.seq
  (.reg [(none, (.mov (.const (.bool .true)), .some 4))] []) .ret)))
theorem b81 : Try.f81.body.bind (compC Try.prog) = some c81 := by kernel_rfl
theorem r81 : compR Try.prog Try.f81 = .some [.tmp 4] := by kernel_rfl
theorem n81 : (Try.f81.name == "runtime.NumGoroutine") = false := by kernel_rfl
def c83 : C := .seq
  (.reg [(none, (.box (.tmp 0), .some 2)), (none, (.new [.slice none 0 0, .int .i64 0, .int .i64 0, .int .i64 0], .some 4)), (none, (.mov (.const (.int .u64 0)), .some 5))] []) (.seq
  (.reg [(none, (.fadr 1 (.tmp 2), .some 9)), (none, (.load none (.tmp 9), .some 10)), (none, (.mov (.tmp 10), .some 6))] []) (.seq
  (.reg [(none, (.load (.some 4) (.tmp 2), .some 12)), (none, (.call (.func 82) [.tmp 12], .some 13)), (none, (.mov (.tmp 13), .some 11)), (none, (.ext (.tmp 11) 0, .some 14)), (none, (.ext (.tmp 11) 1, .some 15)), (none, (.new [.slice none 0 0, .int .i64 0, .int .i64 0, .int .i64 0], .some 7)), (none, (.store 4 (.tmp 7) (.tmp 14), none)), (none, (.mov (.tmp 15), .some 8))] []) (.seq (.seq
  (.reg [(none, (.mov (.tmp 8), .some 16)), (none, (.mov (.tmp 1), .some 17)), (none, (.bin .gtr (.tmp 16) (.tmp 17), .some 18))] []) (.cond (.tmp 18) (.seq
  (.reg [(none, (.load (.some 4) (.tmp 7), .some 19)), (none, (.mov (.tmp 6), .some 20)), (none, (.call (.func 129) [.tmp 19, .const (.int .i64 2), .tmp 20], .some 21)), (none, (.store 4 (.tmp 4) (.tmp 21), none)), (none, (.mov (.const (.int .u64 0)), .some 5))] []) .ret) .skip)) (.seq
  (.reg [(none, (.load (.some 4) (.tmp 7), .some 22)), (none, (.mov (.tmp 8), .some 23)), (none, (.store 4 (.tmp 4) (.tmp 22), none)), (none, (.mov (.tmp 23), .some 5))] []) .ret))))
theorem b83 : Try.f83.body.bind (compC Try.prog) = some c83 := by kernel_rfl
theorem r83 : compR Try.prog Try.f83 = .some [.cell 4 (.some 4), .tmp 5] := by kernel_rfl
theorem n83 : (Try.f83.name == "runtime.NumGoroutine") = false := by kernel_rfl
def c86 : C := .seq
  (.reg [(none, (.mov (.const (.int .u64 0)), .some 4))] []) (.seq
  (.reg [(none, (.mov (.tmp 0), .some 7)), (none, (.call (.func 79) [.tmp 7], .some 8)), (none, (.mov (.tmp 8), .some 5))] []) (.seq
  (.reg [(none, (.mov (.tmp 0), .some 9)), (none, (.call (.func 85) [.tmp 9], .some 10)), (none, (.mov (.tmp 10), .some 6))] []) (.seq (.seq
  (.reg [(none, (.mov (.tmp 6), .some 11)), (none, (.mov (.tmp 1), .some 12)), (none, (.bin .gtr (.tmp 11) (.tmp 12), .some 13))] []) (.cond (.tmp 13) (.seq
  (.reg [(none, (.mov (.tmp 0), .some 14)), (none, (.mov (.tmp 5), .some 15)), (none, (.call (.func 132) [.tmp 14, .const (.int .i64 2), .tmp 15], .some 16))] []) (.seq
  (.reg [(none, (.mov (.const (.int .u64 0)), .some 4))] []) .ret)) .skip)) (.seq
  (.reg [(none, (.mov (.tmp 6), .some 17)), (none, (.mov (.tmp 17), .some 4))] []) .ret))))
theorem b86 : Try.f86.body.bind (compC Try.prog) = some c86 := by kernel_rfl
theorem r86 : compR Try.prog Try.f86 = .some [.tmp 4] := by kernel_rfl
theorem n86 : (Try.f86.name == "runtime.NumGoroutine") = false := by kernel_rfl
def c88 : C := .seq
  (.reg [(none, (.mov (.const (.slice none 0 0)), .some 2))] []) (.seq
  (.reg [(none, (.mov (.const (.slice none 0 0)), .some 3))] []) (.seq (.seq
  (.reg [(none, (.mov (.tmp 0), .some 6)), (none, (.call (.func 120) [.tmp 6], .some 7)), (none, (.un .not (.tmp 7), .some 8))] []) (.cond (.tmp 8) (.seq
  (.reg [(none, (.mov (.const (.slice none 0 0)), .some 2))] []) .ret) .skip)) (.seq (.seq
  (.reg [(none, (.mov (.const (.int .i64 1)), .some 4))] []) (.block 0 (.loop (.seq (.seq
  (.reg [(none, (.mov (.tmp 4), .some 9)), (none, (.mov (.tmp 0), .some 10)), (none, (.len .false (.tmp 10), .some 11)), (none, (.bin .lss (.tmp 9) (.tmp 11), .some 12))] []) (.cond (.tmp 12) .skip (.exit 0))) (.seq (.block 1 (.seq
  (.reg [(none, (.mov (.tmp 0), .some 15)), (none, (.mov (.tmp 4), .some 16)), (none, (.bin .sub (.tmp 16) (.const (.int .i64 1)), .some 17)), (none, (.iadr 3 (.tmp 15) (.tmp 17), .some 18)), (none, (.load (.some 3) (.tmp 18), .some 19)), (none, (.call (.func 126) [.tmp 19], .some 20)), (none, (.mov (.tmp 20), .some 5))] []) (.seq
  (.reg [(none, (.mov (.tmp 5), .some 21)), (none, (.mov (.tmp 0), .some 22)), (none, (.mov (.tmp 4), .some 23)), (none, (.iadr 3 (.tmp 22) (.tmp 23), .some 24)), (none, (.fadr 0 (.tmp 24), .some 25)), (none, (.load none (.tmp 25), .some 26)), (none, (.bin .lss (.tmp 21) (.tmp 26), .some 27))] []) (.cond (.tmp 27)
  (.reg [(none, (.mov (.tmp 3), .some 28)), (none, (.mov (.tmp 5), .some 29)), (none, (.mov (.tmp 0), .some 30)), (none, (.mov (.tmp 4), .some 31)), (none, (.iadr 3 (.tmp 30) (.tmp 31), .some 32)), (none, (.fadr 0 (.tmp 32), .some 33)), (none, (.load none (.tmp 33), .some 34)), (none, (.build [.int .u64 0, .int .u64 0] [(0, (1, .tmp 29)), (1, (1, .tmp 34))], .some 35)), (none, (.bsl 2 [.tmp 35], .some 36)), (none, (.app 2 16 (.tmp 28) (.tmp 36), .some 37)), (none, (.mov (.tmp 37), .some 3))] []) .skip))))
  (.reg [(none, (.mov (.tmp 4), .some 13)), (none, (.bin .add (.tmp 13) (.const (.int .i64 1)), .some 14)), (none, (.mov (.tmp 14), .some 4))] [])))))) (.seq
  (.reg [(none, (.mov (.tmp 3), .some 38)), (none, (.mov (.tmp 38), .some 2))] []) .ret))))
theorem b88 : Try.f88.body.bind (compC Try.prog) = some c88 := by kernel_rfl
theorem r88 : compR Try.prog Try.f88 = .some [.tmp 2] := by kernel_rfl
theorem n88 : (Try.f88.name == "runtime.NumGoroutine") = false := by kernel_rfl
def c90 : C := .block 0 (.seq
  (.reg [(none, (.mov (.tmp 0), .some 14)), (none, (.call (.func 123) [.tmp 14], .some 15)), (none, (.bin .neq (.tmp 15) (.const (.int .i64 0)), .some 16)), (none, (.mov (.tmp 16), .some 13))] []) (.cond (.tmp 13) .skip (.seq
  (.reg [(none, (.mov (.tmp 1), .some 18)), (none, (.len .false (.tmp 18), .some 19)), (none, (.mov (.tmp 0), .some 20)), (none, (.call (.func 136) [.tmp 20], .some 21)), (none, (.bin .gtr (.tmp 19) (.tmp 21), .some 22)), (none, (.mov (.tmp 22), .some 17))] []) (.cond (.tmp 17)
  (.reg [(none, (.mov (.tmp 0), .some 23)), (none, (.call (.func 124) [.tmp 23, .const (.int .i64 2)], .some 24))] [])
  (.reg [(none, (.mov (.tmp 0), .some 4)), (none, (.mov (.tmp 0), .some 5)), (none, (.nilc (.tmp 5), .some 6)), (none, (.fadr 1 (.tmp 6), .some 7)), (none, (.load none (.tmp 7), .some 8)), (none, (.mov (.tmp 1), .some 9)), (none, (.app 1 1 (.tmp 8) (.tmp 9), .some 10)), (none, (.nilc (.tmp 4), .some 11)), (none, (.fadr 1 (.tmp 11), .some 12)), (none, (.store 1 (.tmp 12) (.tmp 10), none))] [])))))
theorem b90 : Try.f90.body.bind (compC Try.prog) = some c90 := by kernel_rfl
theorem r90 : compR Try.prog Try.f90 = .some [] := by kernel_rfl
theorem n90 : (Try.f90.name == "runtime.NumGoroutine") = false := by kernel_rfl
def c98 : C := .seq
  (.reg [(none, (.mov (.const (.slice none 0 0)), .some 4))] []) (.seq
  (.reg [(none, (.mov (.const (.slice none 0 0)), .some 5))] []) (.seq (.seq
  (.reg [(none, (.mov (.tmp 1), .some 10)), (none, (.mx .true (.tmp 10) (.const (.int .i64 0)), .some 11)), (none, (.mov (.const (.int .i64 0)), .some 12))] []) (.block 0 (.loop (.seq
  (.reg [(none, (.bin .lss (.tmp 12) (.tmp 11), .some 13))] []) (.seq (.cond (.tmp 13) .skip (.exit 0)) (.seq (.block 1 (.seq
  (.reg [(none, (.mov (.tmp 12), .some 14)), (none, (.mov (.tmp 14), .some 6))] []) (.seq
  (.reg [(none, (.mov (.tmp 0), .some 15)), (none, (.call (.func 79) [.tmp 15], .some 16)), (none, (.mov (.tmp 16), .some 7))] []) (.seq
  (.reg [(none, (.mov (.tmp 0), .some 17)), (none, (.call (.func 85) [.tmp 17], .some 18)), (none, (.mov (.tmp 18), .some 8))] []) (.seq (.seq
  (.reg [(none, (.mov (.tmp 6), .some 19)), (none, (.bin .gtr (.tmp 19) (.const (.int .i64 0)), .some 20))] []) (.cond (.tmp 20) (.seq
  (.reg [(none, (.mov (.tmp 5), .some 21)), (none, (.mov (.tmp 6), .some 22)), (none, (.bin .sub (.tmp 22) (.const (.int .i64 1)), .some 23)), (none, (.iadr 1 (.tmp 21) (.tmp 23), .some 24)), (none, (.load none (.tmp 24), .some 25)), (none, (.bin .add (.tmp 25) (.const (.int .u64 1)), .some 26)), (none, (.mov (.tmp 26), .some 9))] []) (.seq (.seq
  (.reg [(none, (.mov (.tmp 9), .some 27)), (none, (.bin .eql (.tmp 27) (.const (.int .u64 0)), .some 28)), (none, (.mov (.tmp 28), .some 29)), (.some (29, .false), (.mov (.tmp 8), .some 30)), (.some (29, .false), (.mov (.tmp 9), .some 31)), (.some (29, .false), (.bin .add (.tmp 30) (.tmp 31), .some 32)), (.some (29, .false), (.mov (.tmp 8), .some 33)), (.some (29, .false), (.bin .lss (.tmp 32) (.tmp 33), .some 34)), (none, (.pick (.tmp 29) (.const (.bool .true)) (.tmp 34), .some 35))] []) (.cond (.tmp 35)
  (.reg [(none, (.mov (.tmp 0), .some 36)), (none, (.mov (.tmp 7), .some 37)), (none, (.call (.func 132) [.tmp 36, .const (.int .i64 13), .tmp 37], .some 38))] []) .skip))
  (.reg [(none, (.mov (.tmp 8), .some 39)), (none, (.mov (.tmp 9), .some 40)), (none, (.bin .add (.tmp 39) (.tmp 40), .some 41)), (none, (.mov (.tmp 41), .some 8))] []))) .skip)) (.seq (.seq
  (.reg [(none, (.mov (.tmp 0), .some 42)), (none, (.call (.func 102) [.tmp 42], .some 43)), (none, (.un .not (.tmp 43), .some 44))] []) (.cond (.tmp 44) (.seq
  (.reg [(none, (.mov (.const (.slice none 0 0)), .some 4))] []) .ret) .skip))
  (.reg [(none, (.mov (.tmp 5), .some 45)), (none, (.mov (.tmp 8), .some 46)), (none, (.bsl 1 [.tmp 46], .some 47)), (none, (.app 1 8 (.tmp 45) (.tmp 47), .some 48)), (none, (.mov (.tmp 48), .some 5))] [])))))))
  (.reg [(none, (.bin .add (.tmp 12) (.const (.int .i64 1)), .some 49)), (none, (.mov (.tmp 49), .some 12))] []))))))) (.seq
  (.reg [(none, (.mov (.tmp 5), .some 50)), (none, (.mov (.tmp 50), .some 4))] []) .ret)))
theorem b98 : Try.f98.body.bind (compC Try.prog) = some c98 := by kernel_rfl
theorem r98 : compR Try.prog Try.f98 = .some [.tmp 4] := by kernel_rfl
theorem n98 : (Try.f98.name == "runtime.NumGoroutine") = false := by kernel_rfl
def c101 : C := .seq
  (.reg [(none, (.mov (.const (.slice none 0 0)), .some 4))] []) (.scope (.seq
  (.reg [(none, (.mov (.const (.slice none 0 0)), .some 5))] []) (.seq
  (.reg [(none, (.mov (.tmp 0), .some 8)), (none, (.mov (.tmp 1), .some 9)), (none, (.call (.func 87) [.tmp 8, .tmp 9], .some 10)), (none, (.mov (.tmp 10), .some 6))] []) (.seq (.label 0) (.seq (.seq
  (.reg [(none, (.mov (.tmp 6), .some 11)), (none, (.mov (.const (.int .i64 0)), .some 12))] []) (.block 0 (.loop (.seq
  (.reg [(none, (.bin .lss (.tmp 12) (.tmp 11), .some 13))] []) (.seq (.cond (.tmp 13) .skip (.exit 0)) (.seq (.block 1 (.seq
  (.reg [(none, (.mov (.tmp 0), .some 14)), (none, (.call (.func 85) [.tmp 14], .some 15)), (none, (.mov (.tmp 15), .some 7))] []) (.seq (.seq
  (.reg [(none, (.mov (.tmp 0), .some 16)), (none, (.call (.func 102) [.tmp 16], .some 17)), (none, (.un .not (.tmp 17), .some 18))] []) (.cond (.tmp 18) (.exit 0) .skip))
  (.reg [(none, (.mov (.tmp 5), .some 19)), (none, (.mov (.tmp 7), .some 20)), (none, (.bsl 1 [.tmp 20], .some 21)), (none, (.app 1 8 (.tmp 19) (.tmp 21), .some 22)), (none, (.mov (.tmp 22), .some 5))] []))))
  (.reg [(none, (.bin .add (.tmp 12) (.const (.int .i64 1)), .some 23)), (none, (.mov (.tmp 23), .some 12))] []))))))) (.seq (.seq
  (.reg [(none, (.mov (.tmp 0), .some 24)), (none, (.call (.func 102) [.tmp 24], .some 25)), (none, (.un .not (.tmp 25), .some 26))] []) (.cond (.tmp 26) (.seq
  (.reg [(none, (.mov (.const (.slice none 0 0)), .some 4))] []) .ret) .skip)) (.seq
  (.reg [(none, (.mov (.tmp 5), .some 27)), (none, (.mov (.tmp 27), .some 4))] []) .ret)))))))
theorem b101 : Try.f101.body.bind (compC Try.prog) = some c101 := by kernel_rfl
theorem r101 : compR Try.prog Try.f101 = .some [.tmp 4] := by kernel_rfl
theorem n101 : (Try.f101.name == "runtime.NumGoroutine") = false := by kernel_rfl
def c102 : C := .seq
  (.reg [(none, (.mov (.const (.bool .false)), .some 2))] []) (.seq
  (.reg [(none, (.mov (.tmp 0), .some 3)), (none, (.eqp .true (.tmp 3) (.const (.pointer none)), .some 4)), (none, (.mov (.tmp 4), .some 5)), (.some (5, .true), (.mov (.tmp 0), .some 6)), (.some (5, .true), (.nilc (.tmp 6), .some 7)), (.some (5, .true), (.fadr 2 (.tmp 7), .some 8)), (.some (5, .true), (.load (.some 2) (.tmp 8), .some 9)), (.some (5, .true), (.call (.func 138) [.tmp 9], .some 10)), (none, (.pick (.tmp 5) (.tmp 10) (.const (.bool .false)), .some 11)), (none, (.mov (.tmp 11), .some 2))] []) .ret)
theorem b102 : Try.f102.body.bind (compC Try.prog) = some c102 := by kernel_rfl
theorem r102 : compR Try.prog Try.f102 = .some [.tmp 2] := by kernel_rfl
theorem n102 : (Try.f102.name == "runtime.NumGoroutine") = false := by kernel_rfl
def c113 : C := .seq
  (.reg [(none, (.mov (.const (.int .i64 0)), .some 4))] []) (.seq
  (.reg [(none, (.mov (.tmp 0), .some 11)), (none, (.mov (.tmp 1), .some 12)), (none, (.call (.func 52) [.tmp 11, .tmp 12], .some 13)), (none, (.mov (.tmp 13), .some 10)), (none, (.ext (.tmp 10) 0, .some 14)), (none, (.ext (.tmp 10) 1, .some 15)), (none, (.mov (.tmp 14), .some 5)), (none, (.mov (.tmp 15), .some 6))] []) (.seq (.seq
  (.reg [(none, (.mov (.tmp 6), .some 16)), (none, (.un .not (.tmp 16), .some 17))] []) (.cond (.tmp 17) (.seq
  (.reg [(none, (.mov (.const (.int .i64 0)), .some 4))] []) .ret) .skip)) (.seq
  (.reg [(none, (.mov (.tmp 1), .some 18)), (none, (.len .false (.tmp 18), .some 19)), (none, (.cvt .u64 (.tmp 19), .some 20)), (none, (.call (.func 72) [.tmp 20], .some 21)), (none, (.mov (.tmp 21), .some 7))] []) (.seq (.seq
  (.reg [(none, (.mov (.tmp 5), .some 22)), (none, (.len .false (.tmp 22), .some 23)), (none, (.mov (.const (.int .i64 0)), .some 24))] []) (.block 0 (.loop (.seq
  (.reg [(none, (.bin .lss (.tmp 24) (.tmp 23), .some 25))] []) (.seq (.cond (.tmp 25) .skip (.exit 0)) (.seq (.block 1 (.seq
  (.reg [(none, (.iadr 1 (.tmp 22) (.tmp 24), .some 26)), (none, (.load none (.tmp 26), .some 27)), (none, (.mov (.tmp 27), .some 9))] [])
  (.reg [(none, (.mov (.tmp 7), .some 28)), (none, (.mov (.tmp 9), .some 29)), (none, (.call (.func 72) [.tmp 29], .some 30)), (none, (.bin .add (.tmp 28) (.tmp 30), .some 31)), (none, (.mov (.tmp 31), .some 7))] [])))
  (.reg [(none, (.bin .add (.tmp 24) (.const (.int .i64 1)), .some 32)), (none, (.mov (.tmp 32), .some 24))] []))))))) (.seq
  (.reg [(none, (.mov (.tmp 7), .some 33)), (none, (.mov (.tmp 33), .some 4))] []) .ret)))))
theorem b113 : Try.f113.body.bind (compC Try.prog) = some c113 := by kernel_rfl
theorem r113 : compR Try.prog Try.f113 = .some [.tmp 4] := by kernel_rfl
theorem n113 : (Try.f113.name == "runtime.NumGoroutine") = false := by kernel_rfl
def c124 : C := .seq
  (.reg [(none, (.mov (.tmp 0), .some 4)), (none, (.call (.func 123) [.tmp 4], .some 5)), (none, (.bin .eql (.tmp 5) (.const (.int .i64 0)), .some 6))] []) (.cond (.tmp 6)
  (.reg [(none, (.mov (.tmp 0), .some 7)), (none, (.mov (.tmp 1), .some 8)), (none, (.nilc (.tmp 7), .some 9)), (none, (.fadr 2 (.tmp 9), .some 10)), (none, (.store 1 (.tmp 10) (.tmp 8), none))] []) .skip)
theorem b124 : Try.f124.body.bind (compC Try.prog) = some c124 := by kernel_rfl
theorem r124 : compR Try.prog Try.f124 = .some [] := by kernel_rfl
theorem n124 : (Try.f124.name == "runtime.NumGoroutine") = false := by kernel_rfl
def c126 : C := .seq
  (.reg [(none, (.box (.tmp 0), .some 1)), (none, (.mov (.const (.int .u64 0)), .some 2))] []) (.seq
  (.reg [(none, (.fadr 0 (.tmp 1), .some 3)), (none, (.load none (.tmp 3), .some 4)), (none, (.fadr 1 (.tmp 1), .some 5)), (none, (.load none (.tmp 5), .some 6)), (none, (.cvt .u64 (.tmp 6), .some 7)), (none, (.bin .add (.tmp 4) (.tmp 7), .some 8)), (none, (.mov (.tmp 8), .some 2))] []) .ret)
theorem b126 : Try.f126.body.bind (compC Try.prog) = some c126 := by kernel_rfl
theorem r126 : compR Try.prog Try.f126 = .some [.tmp 2] := by kernel_rfl
theorem n126 : (Try.f126.name == "runtime.NumGoroutine") = false := by kernel_rfl
def c129 : C := .seq
  (.reg [(none, (.box (.tmp 0), .some 3)), (none, (.new [.slice none 0 0, .int .i64 0, .int .i64 0, .int .i64 0], .some 6))] []) (.seq (.seq
  (.reg [(none, (.fadr 2 (.tmp 3), .some 7)), (none, (.fadr 0 (.tmp 7), .some 8)), (none, (.load none (.tmp 8), .some 9)), (none, (.bin .eql (.tmp 9) (.const (.int .i64 0)), .some 10))] []) (.cond (.tmp 10)
  (.reg [(none, (.mov (.tmp 1), .some 11)), (none, (.mov (.tmp 2), .some 12)), (none, (.call (.func 131) [.tmp 11, .tmp 12], .some 13)), (none, (.fadr 2 (.tmp 3), .some 14)), (none, (.store 2 (.tmp 14) (.tmp 13), none))] []) .skip)) (.seq
  (.reg [(none, (.load (.some 4) (.tmp 3), .some 15)), (none, (.store 4 (.tmp 6) (.tmp 15), none))] []) .ret))
theorem b129 : Try.f129.body.bind (compC Try.prog) = some c129 := by kernel_rfl
theorem r129 : compR Try.prog Try.f129 = .some [.cell 6 (.some 4)] := by kernel_rfl
theorem n129 : (Try.f129.name == "runtime.NumGoroutine") = false := by kernel_rfl
def c131 : C := .seq
  (.reg [(none, (.new [.int .i64 0, .int .i64 0], .some 4))] []) (.seq
  (.reg [(none, (.build [.int .i64 0, .int .i64 0] [], .some 6)), (none, (.new [.int .i64 0, .int .i64 0], .some 5)), (none, (.store 2 (.tmp 5) (.tmp 6), none))] []) (.seq (.seq
  (.reg [(none, (.mov (.tmp 0), .some 7)), (none, (.bin .neq (.tmp 7) (.const (.int .i64 0)), .some 8))] []) (.cond (.tmp 8)
  (.reg [(none, (.mov (.tmp 0), .some 9)), (none, (.mov (.tmp 1), .some 10)), (none, (.fadr 0 (.tmp 5), .some 11)), (none, (.store 1 (.tmp 11) (.tmp 9), none)), (none, (.fadr 1 (.tmp 5), .some 12)), (none, (.store 1 (.tmp 12) (.tmp 10), none))] []) .skip)) (.seq
  (.reg [(none, (.load (.some 2) (.tmp 5), .some 13)), (none, (.store 2 (.tmp 4) (.tmp 13), none))] []) .ret)))
theorem b131 : Try.f131.body.bind (compC Try.prog) = some c131 := by kernel_rfl
theorem r131 : compR Try.prog Try.f131 = .some [.cell 4 (.some 2)] := by kernel_rfl
theorem n131 : (Try.f131.name == "runtime.NumGoroutine") = false := by kernel_rfl
def c135 : C := .seq
  (.reg [(none, (.mov (.const (.bool .false)), .some 4))] []) (.seq
  (.reg [(none, (.load none (.tmp 1), .some 5)), (none, (.load none (.tmp 2), .some 6)), (none, (.mov (.tmp 0), .some 7)), (none, (.iadr 3 (.tmp 6) (.tmp 7), .some 8)), (none, (.load (.some 3) (.tmp 8), .some 9)), (none, (.call (.func 126) [.tmp 9], .some 10)), (none, (.bin .lss (.tmp 5) (.tmp 10), .some 11)), (none, (.mov (.tmp 11), .some 4))] [(0, 1), (0, 4), (0, 5)]) .ret)
theorem b135 : Try.f135.body.bind (compC Try.prog) = some c135 := by kernel_rfl
theorem r135 : compR Try.prog Try.f135 = .some [.tmp 4] := by kernel_rfl
theorem n135 : (Try.f135.name == "runtime.NumGoroutine") = false := by kernel_rfl
def c138 : C := .seq
  (.reg [(none, (.box (.tmp 0), .some 1)), (none, (.mov (.const (.bool .false)), .some 2))] []) (.seq
  (.reg [(none, (.fadr 0 (.tmp 1), .some 3)), (none, (.load none (.tmp 3), .some 4)), (none, (.bin .eql (.tmp 4) (.const (.int .i64 0)), .some 5)), (none, (.mov (.tmp 5), .some 2))] []) .ret)
theorem b138 : Try.f138.body.bind (compC Try.prog) = some c138 := by kernel_rfl
theorem r138 : compR Try.prog Try.f138 = .some [.tmp 2] := by kernel_rfl
theorem n138 : (Try.f138.name == "runtime.NumGoroutine") = false := by kernel_rfl
end Go.Proofs.Ytgphhganepjaiaa
