/-
  The codes of the seat's functions over abstract values, each shown to be its function's own (by program: wip/tools/codes.py).
-/
import Derived.Test.YtgphhganepjaiaaA2
import Derived.Test.YtgphhganepjaiaaProg
import Derived.KernelRfl
namespace Go.Proofs.Ytgphhganepjaiaa
def c11 : C := .seq
  (.reg [(none, (.mov (.const (.bool .false)), .some 2))] []) (.seq (.seq
  (.reg [(none, (.mov (.tmp 0), .some 9)), (none, (.len .false (.tmp 9), .some 10)), (none, (.bin .gtr (.tmp 10) (.const (.int .i64 100)), .some 11))] []) (.cond (.tmp 11) (.seq
  (.reg [(none, (.call (.func 66) [], .some 12)), (none, (.mov (.tmp 12), .some 2))] []) .ret) .skip)) (.seq
  (.reg [(none, (.mov (.tmp 0), .some 13)), (none, (.call (.func 67) [.tmp 13], .some 14)), (none, (.mov (.tmp 14), .some 3))] []) (.seq
  (.reg [(none, (.mov (.tmp 0), .some 16)), (none, (.call (.func 68) [.tmp 16], .some 17)), (none, (.mov (.tmp 17), .some 15)), (none, (.ext (.tmp 15) 0, .some 18)), (none, (.ext (.tmp 15) 1, .some 19)), (none, (.mov (.tmp 18), .some 4)), (none, (.mov (.tmp 19), .some 5))] []) (.seq (.seq
  (.reg [(none, (.mov (.tmp 0), .some 20)), (none, (.call (.func 69) [.tmp 20], .some 21)), (none, (.un .not (.tmp 21), .some 22)), (none, (.mov (.tmp 22), .some 23)), (.some (23, .false), (.mov (.tmp 0), .some 24)), (.some (23, .false), (.len .false (.tmp 24), .some 25)), (.some (23, .false), (.bin .eql (.tmp 25) (.const (.int .i64 0)), .some 26)), (none, (.pick (.tmp 23) (.const (.bool .true)) (.tmp 26), .some 27))] []) (.cond (.tmp 27) (.seq
  (.reg [(none, (.mov (.tmp 3), .some 28)), (none, (.bin .eql (.tmp 28) (.const (.int .i64 0)), .some 29)), (none, (.mov (.tmp 29), .some 30)), (.some (30, .true), (.mov (.tmp 4), .some 31)), (.some (30, .true), (.bin .eql (.tmp 31) (.const (.int .u64 0)), .some 32)), (none, (.pick (.tmp 30) (.tmp 32) (.const (.bool .false)), .some 33)), (none, (.mov (.tmp 33), .some 34)), (.some (34, .true), (.mov (.tmp 5), .some 35)), (.some (34, .true), (.bin .eql (.tmp 35) (.const (.int .u64 0)), .some 36)), (none, (.pick (.tmp 34) (.tmp 36) (.const (.bool .false)), .some 37)), (none, (.mov (.tmp 37), .some 38)), (.some (38, .true), (.call (.func 66) [], .some 39)), (none, (.pick (.tmp 38) (.tmp 39) (.const (.bool .false)), .some 40)), (none, (.mov (.tmp 40), .some 2))] []) .ret) .skip)) (.seq
  (.reg [(none, (.mov (.const (.int .i64 0)), .some 6))] []) (.seq (.seq
  (.reg [(none, (.mov (.const (.int .i64 0)), .some 7))] []) (.block 0 (.loop (.seq (.seq
  (.reg [(none, (.mov (.tmp 7), .some 41)), (none, (.mov (.tmp 0), .some 42)), (none, (.len .false (.tmp 42), .some 43)), (none, (.bin .lss (.tmp 41) (.tmp 43), .some 44))] []) (.cond (.tmp 44) .skip (.exit 0))) (.seq (.block 1
  (.reg [(none, (.mov (.tmp 6), .some 47)), (none, (.mov (.tmp 0), .some 48)), (none, (.mov (.tmp 7), .some 49)), (none, (.iadr 3 (.tmp 48) (.tmp 49), .some 50)), (none, (.fadr 1 (.tmp 50), .some 51)), (none, (.load none (.tmp 51), .some 52)), (none, (.bin .add (.tmp 47) (.tmp 52), .some 53)), (none, (.mov (.tmp 53), .some 6))] []))
  (.reg [(none, (.mov (.tmp 7), .some 45)), (none, (.bin .add (.tmp 45) (.const (.int .i64 1)), .some 46)), (none, (.mov (.tmp 46), .some 7))] [])))))) (.seq
  (.reg [(none, (.mov (.tmp 0), .some 54)), (none, (.mov (.tmp 0), .some 55)), (none, (.len .false (.tmp 55), .some 56)), (none, (.bin .sub (.tmp 56) (.const (.int .i64 1)), .some 57)), (none, (.iadr 3 (.tmp 54) (.tmp 57), .some 58)), (none, (.load (.some 3) (.tmp 58), .some 59)), (none, (.new [.int .u64 0, .int .i64 0, .int .i64 0], .some 8)), (none, (.store 3 (.tmp 8) (.tmp 59), none))] []) (.seq
  (.reg [(none, (.mov (.tmp 3), .some 60)), (none, (.mov (.tmp 6), .some 61)), (none, (.bin .eql (.tmp 60) (.tmp 61), .some 62)), (none, (.mov (.tmp 62), .some 63)), (.some (63, .true), (.mov (.tmp 4), .some 64)), (.some (63, .true), (.mov (.tmp 0), .some 65)), (.some (63, .true), (.iadr 3 (.tmp 65) (.const (.int .i64 0)), .some 66)), (.some (63, .true), (.fadr 0 (.tmp 66), .some 67)), (.some (63, .true), (.load none (.tmp 67), .some 68)), (.some (63, .true), (.bin .eql (.tmp 64) (.tmp 68), .some 69)), (none, (.pick (.tmp 63) (.tmp 69) (.const (.bool .false)), .some 70)), (none, (.mov (.tmp 70), .some 71)), (.some (71, .true), (.mov (.tmp 5), .some 72)), (.some (71, .true), (.fadr 0 (.tmp 8), .some 73)), (.some (71, .true), (.load none (.tmp 73), .some 74)), (.some (71, .true), (.fadr 1 (.tmp 8), .some 75)), (.some (71, .true), (.load none (.tmp 75), .some 76)), (.some (71, .true), (.cvt .u64 (.tmp 76), .some 77)), (.some (71, .true), (.bin .add (.tmp 74) (.tmp 77), .some 78)), (.some (71, .true), (.bin .eql (.tmp 72) (.tmp 78), .some 79)), (none, (.pick (.tmp 71) (.tmp 79) (.const (.bool .false)), .some 80)), (none, (.mov (.tmp 80), .some 81)), (.some (81, .true), (.mov (.tmp 5), .some 82)), (.some (81, .true), (.mov (.tmp 4), .some 83)), (.some (81, .true), (.bin .sub (.tmp 82) (.tmp 83), .some 84)), (.some (81, .true), (.mov (.tmp 3), .some 85)), (.some (81, .true), (.cvt .u64 (.tmp 85), .some 86)), (.some (81, .true), (.bin .geq (.tmp 84) (.tmp 86), .some 87)), (none, (.pick (.tmp 81) (.tmp 87) (.const (.bool .false)), .some 88)), (none, (.mov (.tmp 88), .some 89)), (.some (89, .true), (.call (.func 66) [], .some 90)), (none, (.pick (.tmp 89) (.tmp 90) (.const (.bool .false)), .some 91)), (none, (.mov (.tmp 91), .some 2))] []) .ret))))))))
theorem b11 : Try.f11.body.bind (compC Try.prog) = some c11 := by kernel_rfl
theorem r11 : compR Try.prog Try.f11 = .some [.tmp 2] := by kernel_rfl
theorem n11 : (Try.f11.name == "runtime.NumGoroutine") = false := by kernel_rfl
def c12 : C := .seq
  (.reg [(none, (.mov (.const (.bool .false)), .some 4))] []) (.seq (.seq
  (.reg [(none, (.mov (.tmp 0), .some 10)), (none, (.len .false (.tmp 10), .some 11)), (none, (.bin .gtr (.tmp 11) (.const (.int .i64 100)), .some 12))] []) (.cond (.tmp 12) (.seq
  (.reg [(none, (.call (.func 66) [], .some 13)), (none, (.mov (.tmp 13), .some 4))] []) .ret) .skip)) (.seq
  (.reg [(none, (.mov (.tmp 0), .some 15)), (none, (.mov (.tmp 1), .some 16)), (none, (.call (.func 70) [.tmp 15, .tmp 16], .some 17)), (none, (.mov (.tmp 17), .some 14)), (none, (.ext (.tmp 14) 0, .some 18)), (none, (.ext (.tmp 14) 1, .some 19)), (none, (.new [.int .u64 0, .int .i64 0, .int .i64 0], .some 5)), (none, (.store 3 (.tmp 5) (.tmp 18), none)), (none, (.mov (.tmp 19), .some 6))] []) (.seq (.seq
  (.reg [(none, (.mov (.tmp 0), .some 20)), (none, (.call (.func 69) [.tmp 20], .some 21)), (none, (.un .not (.tmp 21), .some 22))] []) (.cond (.tmp 22) (.seq
  (.reg [(none, (.mov (.tmp 6), .some 23)), (none, (.un .not (.tmp 23), .some 24)), (none, (.mov (.tmp 24), .some 25)), (.some (25, .true), (.load (.some 3) (.tmp 5), .some 26)), (.some (25, .true), (.build [.int .u64 0, .int .i64 0, .int .i64 0] [], .some 27)), (.some (25, .true), (.eqa .false 3 (.tmp 26) (.tmp 27), .some 28)), (none, (.pick (.tmp 25) (.tmp 28) (.const (.bool .false)), .some 29)), (none, (.mov (.tmp 29), .some 30)), (.some (30, .true), (.call (.func 66) [], .some 31)), (none, (.pick (.tmp 30) (.tmp 31) (.const (.bool .false)), .some 32)), (none, (.mov (.tmp 32), .some 4))] []) .ret) .skip)) (.seq
  (.reg [(none, (.mov (.tmp 0), .some 33)), (none, (.mov (.tmp 1), .some 34)), (none, (.call (.func 71) [.tmp 33, .tmp 34], .some 35)), (none, (.mov (.tmp 35), .some 7))] []) (.seq
  (.reg [(none, (.mov (.const (.int .i64 0)), .some 8))] []) (.seq (.seq
  (.reg [(none, (.mov (.const (.int .i64 0)), .some 9))] []) (.block 0 (.loop (.seq (.seq
  (.reg [(none, (.mov (.tmp 9), .some 36)), (none, (.mov (.tmp 0), .some 37)), (none, (.len .false (.tmp 37), .some 38)), (none, (.bin .lss (.tmp 36) (.tmp 38), .some 39))] []) (.cond (.tmp 39) .skip (.exit 0))) (.seq (.block 1 (.seq
  (.reg [(none, (.mov (.tmp 1), .some 42)), (none, (.mov (.tmp 0), .some 43)), (none, (.mov (.tmp 9), .some 44)), (none, (.iadr 3 (.tmp 43) (.tmp 44), .some 45)), (none, (.fadr 0 (.tmp 45), .some 46)), (none, (.load none (.tmp 46), .some 47)), (none, (.bin .geq (.tmp 42) (.tmp 47), .some 48)), (none, (.mov (.tmp 48), .some 49)), (.some (49, .true), (.mov (.tmp 1), .some 50)), (.some (49, .true), (.mov (.tmp 0), .some 51)), (.some (49, .true), (.mov (.tmp 9), .some 52)), (.some (49, .true), (.iadr 3 (.tmp 51) (.tmp 52), .some 53)), (.some (49, .true), (.fadr 0 (.tmp 53), .some 54)), (.some (49, .true), (.load none (.tmp 54), .some 55)), (.some (49, .true), (.mov (.tmp 0), .some 56)), (.some (49, .true), (.mov (.tmp 9), .some 57)), (.some (49, .true), (.iadr 3 (.tmp 56) (.tmp 57), .some 58)), (.some (49, .true), (.fadr 1 (.tmp 58), .some 59)), (.some (49, .true), (.load none (.tmp 59), .some 60)), (.some (49, .true), (.cvt .u64 (.tmp 60), .some 61)), (.some (49, .true), (.bin .add (.tmp 55) (.tmp 61), .some 62)), (.some (49, .true), (.bin .lss (.tmp 50) (.tmp 62), .some 63)), (none, (.pick (.tmp 49) (.tmp 63) (.const (.bool .false)), .some 64))] [(13, 18)]) (.cond (.tmp 64)
  (.reg [(none, (.mov (.tmp 8), .some 65)), (none, (.bin .add (.tmp 65) (.const (.int .i64 1)), .some 66)), (none, (.mov (.tmp 66), .some 8))] []) .skip)))
  (.reg [(none, (.mov (.tmp 9), .some 40)), (none, (.bin .add (.tmp 40) (.const (.int .i64 1)), .some 41)), (none, (.mov (.tmp 41), .some 9))] [])))))) (.seq (.seq
  (.reg [(none, (.mov (.tmp 8), .some 67)), (none, (.bin .gtr (.tmp 67) (.const (.int .i64 1)), .some 68)), (none, (.mov (.tmp 68), .some 69)), (.some (69, .false), (.mov (.tmp 6), .some 70)), (.some (69, .false), (.mov (.tmp 8), .some 71)), (.some (69, .false), (.bin .eql (.tmp 71) (.const (.int .i64 1)), .some 72)), (.some (69, .false), (.eqb .true (.tmp 70) (.tmp 72), .some 73)), (none, (.pick (.tmp 69) (.const (.bool .true)) (.tmp 73), .some 74))] []) (.cond (.tmp 74) (.seq
  (.reg [(none, (.mov (.const (.bool .false)), .some 4))] []) .ret) .skip)) (.seq
  (.reg [(none, (.mov (.tmp 6), .some 75)), (none, (.un .not (.tmp 75), .some 76)), (none, (.mov (.tmp 76), .some 77)), (.some (77, .true), (.load (.some 3) (.tmp 5), .some 78)), (.some (77, .true), (.build [.int .u64 0, .int .i64 0, .int .i64 0] [], .some 79)), (.some (77, .true), (.eqa .false 3 (.tmp 78) (.tmp 79), .some 80)), (none, (.pick (.tmp 77) (.tmp 80) (.const (.bool .false)), .some 81)), (none, (.mov (.tmp 81), .some 82)), (.some (82, .false), (.mov (.tmp 6), .some 83)), (.some (82, .false), (.mov (.tmp 83), .some 84)), (.some (84, .true), (.load (.some 3) (.tmp 5), .some 85)), (.some (84, .true), (.mov (.tmp 0), .some 86)), (.some (84, .true), (.mov (.tmp 7), .some 87)), (.some (84, .true), (.iadr 3 (.tmp 86) (.tmp 87), .some 88)), (.some (84, .true), (.load (.some 3) (.tmp 88), .some 89)), (.some (84, .true), (.eqa .false 3 (.tmp 85) (.tmp 89), .some 90)), (.some (82, .false), (.pick (.tmp 84) (.tmp 90) (.const (.bool .false)), .some 91)), (none, (.pick (.tmp 82) (.const (.bool .true)) (.tmp 91), .some 92)), (none, (.mov (.tmp 92), .some 93)), (.some (93, .true), (.call (.func 66) [], .some 94)), (none, (.pick (.tmp 93) (.tmp 94) (.const (.bool .false)), .some 95)), (none, (.mov (.tmp 95), .some 4))] [(10, 14)]) .ret))))))))
theorem b12 : Try.f12.body.bind (compC Try.prog) = some c12 := by kernel_rfl
theorem r12 : compR Try.prog Try.f12 = .some [.tmp 4] := by kernel_rfl
theorem n12 : (Try.f12.name == "runtime.NumGoroutine") = false := by kernel_rfl
def c70 : C := .seq
  (.reg [(none, (.new [.int .u64 0, .int .i64 0, .int .i64 0], .some 4)), (none, (.mov (.const (.bool .false)), .some 5))] []) (.scope (.seq
  (.reg [(none, (.mov (.tmp 0), .some 10)), (none, (.len .false (.tmp 10), .some 11)), (none, (.mov (.const (.int .i64 0)), .some 6)), (none, (.mov (.tmp 11), .some 7)), (none, (.mov (.const (.int .i64 0)), .some 8))] []) (.seq (.seq
  (.reg [(none, (.mov (.tmp 0), .some 12)), (none, (.call (.func 120) [.tmp 12], .some 13)), (none, (.un .not (.tmp 13), .some 14))] []) (.cond (.tmp 14) (.seq
  (.reg [(none, (.build [.int .u64 0, .int .i64 0, .int .i64 0] [], .some 15)), (none, (.store 3 (.tmp 4) (.tmp 15), none)), (none, (.mov (.const (.bool .false)), .some 5))] []) .ret) .skip)) (.seq (.label 0) (.seq (.seq
  (.reg [(none, (.mov (.tmp 6), .some 16)), (none, (.mov (.tmp 7), .some 17)), (none, (.bin .eql (.tmp 16) (.tmp 17), .some 18))] []) (.cond (.tmp 18) (.seq
  (.reg [(none, (.build [.int .u64 0, .int .i64 0, .int .i64 0] [], .some 19)), (none, (.store 3 (.tmp 4) (.tmp 19), none)), (none, (.mov (.const (.bool .false)), .some 5))] []) .ret) .skip)) (.seq
  (.reg [(none, (.mov (.tmp 6), .some 20)), (none, (.mov (.tmp 7), .some 21)), (none, (.bin .add (.tmp 20) (.tmp 21), .some 22)), (none, (.bin .quo (.tmp 22) (.const (.int .i64 2)), .some 23)), (none, (.mov (.tmp 23), .some 8))] []) (.seq (.seq
  (.reg [(none, (.mov (.tmp 0), .some 24)), (none, (.mov (.tmp 8), .some 25)), (none, (.iadr 3 (.tmp 24) (.tmp 25), .some 26)), (none, (.load (.some 3) (.tmp 26), .some 27)), (none, (.new [.int .u64 0, .int .i64 0, .int .i64 0], .some 9)), (none, (.store 3 (.tmp 9) (.tmp 27), none))] []) (.block 0 (.seq
  (.reg [(none, (.mov (.tmp 1), .some 30)), (none, (.fadr 0 (.tmp 9), .some 31)), (none, (.load none (.tmp 31), .some 32)), (none, (.bin .lss (.tmp 30) (.tmp 32), .some 33)), (none, (.mov (.tmp 33), .some 29))] []) (.cond (.tmp 29)
  (.reg [(none, (.mov (.tmp 8), .some 34)), (none, (.mov (.tmp 34), .some 7))] []) (.seq
  (.reg [(none, (.mov (.tmp 1), .some 36)), (none, (.load (.some 3) (.tmp 9), .some 37)), (none, (.call (.func 126) [.tmp 37], .some 38)), (none, (.bin .geq (.tmp 36) (.tmp 38), .some 39)), (none, (.mov (.tmp 39), .some 35))] []) (.cond (.tmp 35)
  (.reg [(none, (.mov (.tmp 8), .some 40)), (none, (.bin .add (.tmp 40) (.const (.int .i64 1)), .some 41)), (none, (.mov (.tmp 41), .some 6))] []) (.seq
  (.reg [(none, (.load (.some 3) (.tmp 9), .some 28)), (none, (.store 3 (.tmp 4) (.tmp 28), none)), (none, (.mov (.const (.bool .true)), .some 5))] []) .ret))))))) (.goto 0))))))))
theorem b70 : Try.f70.body.bind (compC Try.prog) = some c70 := by kernel_rfl
theorem r70 : compR Try.prog Try.f70 = .some [.cell 4 (.some 3), .tmp 5] := by kernel_rfl
theorem n70 : (Try.f70.name == "runtime.NumGoroutine") = false := by kernel_rfl
def c71 : C := .seq
  (.reg [(none, (.mov (.const (.int .i64 0)), .some 4))] []) (.seq (.seq
  (.reg [(none, (.mov (.const (.int .i64 0)), .some 5))] []) (.block 0 (.loop (.seq (.seq
  (.reg [(none, (.mov (.tmp 5), .some 6)), (none, (.mov (.tmp 0), .some 7)), (none, (.len .false (.tmp 7), .some 8)), (none, (.bin .lss (.tmp 6) (.tmp 8), .some 9))] []) (.cond (.tmp 9) .skip (.exit 0))) (.seq (.block 1 (.seq
  (.reg [(none, (.mov (.tmp 1), .some 12)), (none, (.mov (.tmp 0), .some 13)), (none, (.mov (.tmp 5), .some 14)), (none, (.iadr 3 (.tmp 13) (.tmp 14), .some 15)), (none, (.fadr 0 (.tmp 15), .some 16)), (none, (.load none (.tmp 16), .some 17)), (none, (.bin .geq (.tmp 12) (.tmp 17), .some 18)), (none, (.mov (.tmp 18), .some 19)), (.some (19, .true), (.mov (.tmp 1), .some 20)), (.some (19, .true), (.mov (.tmp 0), .some 21)), (.some (19, .true), (.mov (.tmp 5), .some 22)), (.some (19, .true), (.iadr 3 (.tmp 21) (.tmp 22), .some 23)), (.some (19, .true), (.fadr 0 (.tmp 23), .some 24)), (.some (19, .true), (.load none (.tmp 24), .some 25)), (.some (19, .true), (.mov (.tmp 0), .some 26)), (.some (19, .true), (.mov (.tmp 5), .some 27)), (.some (19, .true), (.iadr 3 (.tmp 26) (.tmp 27), .some 28)), (.some (19, .true), (.fadr 1 (.tmp 28), .some 29)), (.some (19, .true), (.load none (.tmp 29), .some 30)), (.some (19, .true), (.cvt .u64 (.tmp 30), .some 31)), (.some (19, .true), (.bin .add (.tmp 25) (.tmp 31), .some 32)), (.some (19, .true), (.bin .lss (.tmp 20) (.tmp 32), .some 33)), (none, (.pick (.tmp 19) (.tmp 33) (.const (.bool .false)), .some 34))] [(13, 18)]) (.cond (.tmp 34) (.seq
  (.reg [(none, (.mov (.tmp 5), .some 35)), (none, (.mov (.tmp 35), .some 4))] []) .ret) .skip)))
  (.reg [(none, (.mov (.tmp 5), .some 10)), (none, (.bin .add (.tmp 10) (.const (.int .i64 1)), .some 11)), (none, (.mov (.tmp 11), .some 5))] [])))))) (.seq
  (.reg [(none, (.mov (.const (.int .i64 (-1))), .some 4))] []) .ret))
theorem b71 : Try.f71.body.bind (compC Try.prog) = some c71 := by kernel_rfl
theorem r71 : compR Try.prog Try.f71 = .some [.tmp 4] := by kernel_rfl
theorem n71 : (Try.f71.name == "runtime.NumGoroutine") = false := by kernel_rfl
def c78 : C := .seq
  (.reg [(none, (.new [.int .i64 0, .int .i64 0], .some 2))] []) (.seq (.seq
  (.reg [(none, (.mov (.tmp 0), .some 3)), (none, (.eqp .false (.tmp 3) (.const (.pointer none)), .some 4))] []) (.cond (.tmp 4) (.seq
  (.reg [(none, (.call (.func 130) [.const (.int .i64 19), .const (.int .i64 0)], .some 5)), (none, (.store 2 (.tmp 2) (.tmp 5), none))] []) .ret) .skip)) (.seq
  (.reg [(none, (.mov (.tmp 0), .some 6)), (none, (.nilc (.tmp 6), .some 7)), (none, (.fadr 2 (.tmp 7), .some 8)), (none, (.load (.some 2) (.tmp 8), .some 9)), (none, (.store 2 (.tmp 2) (.tmp 9), none))] []) .ret))
theorem b78 : Try.f78.body.bind (compC Try.prog) = some c78 := by kernel_rfl
theorem r78 : compR Try.prog Try.f78 = .some [.cell 2 (.some 2)] := by kernel_rfl
theorem n78 : (Try.f78.name == "runtime.NumGoroutine") = false := by kernel_rfl
def c82 : C := .seq
  (.reg [(none, (.box (.tmp 0), .some 1)), (none, (.new [.slice none 0 0, .int .i64 0, .int .i64 0, .int .i64 0], .some 2)), (none, (.mov (.const (.int .u64 0)), .some 3))] []) (.seq (.seq
  (.reg [(none, (.fadr 2 (.tmp 1), .some 7)), (none, (.fadr 0 (.tmp 7), .some 8)), (none, (.load none (.tmp 8), .some 9)), (none, (.bin .neq (.tmp 9) (.const (.int .i64 0)), .some 10))] []) (.cond (.tmp 10) (.seq
  (.reg [(none, (.load (.some 4) (.tmp 1), .some 11)), (none, (.store 4 (.tmp 2) (.tmp 11), none)), (none, (.mov (.const (.int .u64 0)), .some 3))] []) .ret) .skip)) (.seq
  (.reg [(none, (.fadr 0 (.tmp 1), .some 13)), (none, (.load none (.tmp 13), .some 14)), (none, (.fadr 1 (.tmp 1), .some 15)), (none, (.load none (.tmp 15), .some 16)), (none, (.slice 1 (.tmp 14) (.some (.tmp 16)) none none, .some 17)), (none, (.call (.func 80) [.tmp 17], .some 18)), (none, (.mov (.tmp 18), .some 12)), (none, (.ext (.tmp 12) 0, .some 19)), (none, (.ext (.tmp 12) 1, .some 20)), (none, (.ext (.tmp 12) 2, .some 21)), (none, (.new [.int .i64 0, .int .i64 0], .some 6)), (none, (.mov (.tmp 19), .some 4)), (none, (.mov (.tmp 20), .some 5)), (none, (.store 2 (.tmp 6) (.tmp 21), none))] []) (.seq (.seq
  (.reg [(none, (.fadr 0 (.tmp 6), .some 22)), (none, (.load none (.tmp 22), .some 23)), (none, (.bin .eql (.tmp 23) (.const (.int .i64 0)), .some 24))] []) (.cond (.tmp 24) (.seq
  (.reg [(none, (.fadr 1 (.tmp 1), .some 25)), (none, (.load none (.tmp 25), .some 26)), (none, (.mov (.tmp 5), .some 27)), (none, (.bin .add (.tmp 26) (.tmp 27), .some 28)), (none, (.fadr 1 (.tmp 1), .some 29)), (none, (.store 1 (.tmp 29) (.tmp 28), none))] []) (.seq
  (.reg [(none, (.load (.some 4) (.tmp 1), .some 30)), (none, (.mov (.tmp 4), .some 31)), (none, (.store 4 (.tmp 2) (.tmp 30), none)), (none, (.mov (.tmp 31), .some 3))] []) .ret)) .skip)) (.seq (.seq
  (.reg [(none, (.fadr 0 (.tmp 6), .some 32)), (none, (.load none (.tmp 32), .some 33)), (none, (.bin .eql (.tmp 33) (.const (.int .i64 1)), .some 34))] []) (.cond (.tmp 34)
  (.reg [(none, (.fadr 0 (.tmp 1), .some 35)), (none, (.load none (.tmp 35), .some 36)), (none, (.len .false (.tmp 36), .some 37)), (none, (.fadr 1 (.tmp 1), .some 38)), (none, (.store 1 (.tmp 38) (.tmp 37), none))] [])
  (.reg [(none, (.fadr 1 (.tmp 1), .some 39)), (none, (.load none (.tmp 39), .some 40)), (none, (.fadr 1 (.tmp 6), .some 41)), (none, (.load none (.tmp 41), .some 42)), (none, (.bin .add (.tmp 40) (.tmp 42), .some 43)), (none, (.bin .add (.tmp 43) (.const (.int .i64 1)), .some 44)), (none, (.fadr 1 (.tmp 1), .some 45)), (none, (.store 1 (.tmp 45) (.tmp 44), none))] []))) (.seq
  (.reg [(none, (.fadr 0 (.tmp 6), .some 46)), (none, (.load none (.tmp 46), .some 47)), (none, (.fadr 1 (.tmp 1), .some 48)), (none, (.load none (.tmp 48), .some 49)), (none, (.call (.func 131) [.tmp 47, .tmp 49], .some 50)), (none, (.fadr 2 (.tmp 1), .some 51)), (none, (.store 2 (.tmp 51) (.tmp 50), none))] []) (.seq (.seq
  (.reg [(none, (.fadr 0 (.tmp 6), .some 52)), (none, (.load none (.tmp 52), .some 53)), (none, (.bin .neq (.tmp 53) (.const (.int .i64 1)), .some 54))] []) (.cond (.tmp 54)
  (.reg [(none, (.fadr 1 (.tmp 1), .some 55)), (none, (.load none (.tmp 55), .some 56)), (none, (.bin .sub (.tmp 56) (.const (.int .i64 1)), .some 57)), (none, (.fadr 2 (.tmp 1), .some 58)), (none, (.fadr 1 (.tmp 58), .some 59)), (none, (.store 1 (.tmp 59) (.tmp 57), none))] []) .skip)) (.seq
  (.reg [(none, (.load (.some 4) (.tmp 1), .some 60)), (none, (.store 4 (.tmp 2) (.tmp 60), none)), (none, (.mov (.const (.int .u64 0)), .some 3))] []) .ret)))))))
theorem b82 : Try.f82.body.bind (compC Try.prog) = some c82 := by kernel_rfl
theorem r82 : compR Try.prog Try.f82 = .some [.cell 2 (.some 4), .tmp 3] := by kernel_rfl
theorem n82 : (Try.f82.name == "runtime.NumGoroutine") = false := by kernel_rfl
def c83 : C := .seq
  (.reg [(none, (.box (.tmp 0), .some 2)), (none, (.new [.slice none 0 0, .int .i64 0, .int .i64 0, .int .i64 0], .some 4)), (none, (.mov (.const (.int .u64 0)), .some 5))] []) (.seq
  (.reg [(none, (.fadr 1 (.tmp 2), .some 9)), (none, (.load none (.tmp 9), .some 10)), (none, (.mov (.tmp 10), .some 6))] []) (.seq
  (.reg [(none, (.load (.some 4) (.tmp 2), .some 12)), (none, (.call (.func 82) [.tmp 12], .some 13)), (none, (.mov (.tmp 13), .some 11)), (none, (.ext (.tmp 11) 0, .some 14)), (none, (.ext (.tmp 11) 1, .some 15)), (none, (.new [.slice none 0 0, .int .i64 0, .int .i64 0, .int .i64 0], .some 7)), (none, (.store 4 (.tmp 7) (.tmp 14), none)), (none, (.mov (.tmp 15), .some 8))] []) (.seq (.seq
  (.reg [(none, (.mov (.tmp 8), .some 16)), (none, (.mov (.tmp 1), .some 17)), (none, (.bin .gtr (.tmp 16) (.tmp 17), .some 18))] []) (.cond (.tmp 18) (.seq
  (.reg [(none, (.load (.some 4) (.tmp 7), .some 19)), (none, (.mov (.tmp 6), .some 20)), (none, (.call (.func 129) [.tmp 19, .const (.int .i64 2), .tmp 20], .some 21)), (none, (.store 4 (.tmp 4) (.tmp 21), none)), (none, (.mov (.const (.int .u64 0)), .some 5))] []) .ret) .skip)) (.seq
  (.reg [(none, (.load (.some 4) (.tmp 7), .some 22)), (none, (.mov (.tmp 8), .some 23)), (none, (.store 4 (.tmp 4) (.tmp 22), none)), (none, (.mov (.tmp 23), .some 5))] []) .ret))))
theorem b83 : Try.f83.body.bind (compC Try.prog) = some c83 := by kernel_rfl
theorem r83 : compR Try.prog Try.f83 = .some [.cell 4 (.some 4), .tmp 5] := by kernel_rfl
theorem n83 : (Try.f83.name == "runtime.NumGoroutine") = false := by kernel_rfl
def c89 : C := .seq
  (.reg [(none, (.box (.tmp 0), .some 2)), (none, (.box (.tmp 1), .some 3)), (none, (.mov (.const (.int .u64 0)), .some 4)), (none, (.mov (.const (.bool .false)), .some 5))] []) (.seq (.seq
  (.reg [(none, (.load none (.tmp 2), .some 7)), (none, (.call (.func 120) [.tmp 7], .some 8)), (none, (.un .not (.tmp 8), .some 9))] []) (.cond (.tmp 9) (.seq
  (.reg [(none, (.mov (.const (.int .u64 0)), .some 4)), (none, (.mov (.const (.bool .false)), .some 5))] []) .ret) .skip)) (.seq
  (.reg [(none, (.load none (.tmp 2), .some 10)), (none, (.len .false (.tmp 10), .some 11)), (none, (.mkf 135 [] [.tmp 3, .tmp 2], .some 12)), (none, (.call (.func 134) [.tmp 11, .tmp 12], .some 13)), (none, (.mov (.tmp 13), .some 6))] []) (.seq (.seq
  (.reg [(none, (.mov (.tmp 6), .some 14)), (none, (.load none (.tmp 2), .some 15)), (none, (.len .false (.tmp 15), .some 16)), (none, (.bin .eql (.tmp 14) (.tmp 16), .some 17))] []) (.cond (.tmp 17) (.seq
  (.reg [(none, (.mov (.const (.int .u64 0)), .some 4)), (none, (.mov (.const (.bool .false)), .some 5))] []) .ret) .skip)) (.seq
  (.reg [(none, (.load none (.tmp 3), .some 18)), (none, (.load none (.tmp 2), .some 19)), (none, (.mov (.tmp 6), .some 20)), (none, (.iadr 3 (.tmp 19) (.tmp 20), .some 21)), (none, (.fadr 0 (.tmp 21), .some 22)), (none, (.load none (.tmp 22), .some 23)), (none, (.mx .true (.tmp 18) (.tmp 23), .some 24)), (none, (.mov (.tmp 24), .some 4)), (none, (.mov (.const (.bool .true)), .some 5))] [(0, 1), (0, 5)]) .ret))))
theorem b89 : Try.f89.body.bind (compC Try.prog) = some c89 := by kernel_rfl
theorem r89 : compR Try.prog Try.f89 = .some [.tmp 4, .tmp 5] := by kernel_rfl
theorem n89 : (Try.f89.name == "runtime.NumGoroutine") = false := by kernel_rfl
def c90 : C := .block 0 (.seq
  (.reg [(none, (.mov (.tmp 0), .some 14)), (none, (.call (.func 123) [.tmp 14], .some 15)), (none, (.bin .neq (.tmp 15) (.const (.int .i64 0)), .some 16)), (none, (.mov (.tmp 16), .some 13))] []) (.cond (.tmp 13) .skip (.seq
  (.reg [(none, (.mov (.tmp 1), .some 18)), (none, (.len .false (.tmp 18), .some 19)), (none, (.mov (.tmp 0), .some 20)), (none, (.call (.func 136) [.tmp 20], .some 21)), (none, (.bin .gtr (.tmp 19) (.tmp 21), .some 22)), (none, (.mov (.tmp 22), .some 17))] []) (.cond (.tmp 17)
  (.reg [(none, (.mov (.tmp 0), .some 23)), (none, (.call (.func 124) [.tmp 23, .const (.int .i64 2)], .some 24))] [])
  (.reg [(none, (.mov (.tmp 0), .some 4)), (none, (.mov (.tmp 0), .some 5)), (none, (.nilc (.tmp 5), .some 6)), (none, (.fadr 1 (.tmp 6), .some 7)), (none, (.load none (.tmp 7), .some 8)), (none, (.mov (.tmp 1), .some 9)), (none, (.app 1 1 (.tmp 8) (.tmp 9), .some 10)), (none, (.nilc (.tmp 4), .some 11)), (none, (.fadr 1 (.tmp 11), .some 12)), (none, (.store 1 (.tmp 12) (.tmp 10), none))] [])))))
theorem b90 : Try.f90.body.bind (compC Try.prog) = some c90 := by kernel_rfl
theorem r90 : compR Try.prog Try.f90 = .some [] := by kernel_rfl
theorem n90 : (Try.f90.name == "runtime.NumGoroutine") = false := by kernel_rfl
def c111 : C := .seq
  (.reg [(none, (.mov (.const (.int .i64 0)), .some 2))] []) (.seq (.seq
  (.reg [(none, (.mov (.tmp 0), .some 3)), (none, (.eqp .false (.tmp 3) (.const (.pointer none)), .some 4))] []) (.cond (.tmp 4) (.seq
  (.reg [(none, (.mov (.const (.int .i64 0)), .some 2))] []) .ret) .skip)) (.seq
  (.reg [(none, (.mov (.tmp 0), .some 5)), (none, (.nilc (.tmp 5), .some 6)), (none, (.fadr 0 (.tmp 6), .some 7)), (none, (.load none (.tmp 7), .some 8)), (none, (.len .false (.tmp 8), .some 9)), (none, (.mov (.tmp 0), .some 10)), (none, (.nilc (.tmp 10), .some 11)), (none, (.fadr 1 (.tmp 11), .some 12)), (none, (.load none (.tmp 12), .some 13)), (none, (.bin .sub (.tmp 9) (.tmp 13), .some 14)), (none, (.mov (.tmp 14), .some 2))] [(3, 8)]) .ret))
theorem b111 : Try.f111.body.bind (compC Try.prog) = some c111 := by kernel_rfl
theorem r111 : compR Try.prog Try.f111 = .some [.tmp 2] := by kernel_rfl
theorem n111 : (Try.f111.name == "runtime.NumGoroutine") = false := by kernel_rfl
def c123 : C := .seq
  (.reg [(none, (.mov (.const (.int .i64 0)), .some 2))] []) (.seq (.seq
  (.reg [(none, (.mov (.tmp 0), .some 3)), (none, (.eqp .false (.tmp 3) (.const (.pointer none)), .some 4))] []) (.cond (.tmp 4) (.seq
  (.reg [(none, (.mov (.const (.int .i64 19)), .some 2))] []) .ret) .skip)) (.seq
  (.reg [(none, (.mov (.tmp 0), .some 5)), (none, (.nilc (.tmp 5), .some 6)), (none, (.fadr 2 (.tmp 6), .some 7)), (none, (.load none (.tmp 7), .some 8)), (none, (.mov (.tmp 8), .some 2))] []) .ret))
theorem b123 : Try.f123.body.bind (compC Try.prog) = some c123 := by kernel_rfl
theorem r123 : compR Try.prog Try.f123 = .some [.tmp 2] := by kernel_rfl
theorem n123 : (Try.f123.name == "runtime.NumGoroutine") = false := by kernel_rfl
def c132 : C := .seq
  (.reg [(none, (.mov (.tmp 0), .some 6)), (none, (.call (.func 102) [.tmp 6], .some 7))] []) (.cond (.tmp 7)
  (.reg [(none, (.mov (.tmp 0), .some 8)), (none, (.mov (.tmp 1), .some 9)), (none, (.mov (.tmp 2), .some 10)), (none, (.call (.func 130) [.tmp 9, .tmp 10], .some 11)), (none, (.nilc (.tmp 8), .some 12)), (none, (.fadr 2 (.tmp 12), .some 13)), (none, (.store 2 (.tmp 13) (.tmp 11), none))] []) .skip)
theorem b132 : Try.f132.body.bind (compC Try.prog) = some c132 := by kernel_rfl
theorem r132 : compR Try.prog Try.f132 = .some [] := by kernel_rfl
theorem n132 : (Try.f132.name == "runtime.NumGoroutine") = false := by kernel_rfl
def c133 : C := .seq
  (.reg [(none, (.mov (.const (.int .u8 0)), .some 2))] []) (.seq (.seq
  (.reg [(none, (.mov (.tmp 0), .some 3)), (none, (.call (.func 81) [.tmp 3, .const (.int .i64 1)], .some 4)), (none, (.un .not (.tmp 4), .some 5))] []) (.cond (.tmp 5) (.seq
  (.reg [(none, (.mov (.const (.int .u8 0)), .some 2))] []) .ret) .skip)) (.seq
  (.reg [(none, (.mov (.tmp 0), .some 6)), (none, (.nilc (.tmp 6), .some 7)), (none, (.fadr 0 (.tmp 7), .some 8)), (none, (.load none (.tmp 8), .some 9)), (none, (.mov (.tmp 0), .some 10)), (none, (.nilc (.tmp 10), .some 11)), (none, (.fadr 1 (.tmp 11), .some 12)), (none, (.load none (.tmp 12), .some 13)), (none, (.bin .sub (.tmp 13) (.const (.int .i64 1)), .some 14)), (none, (.iadr 1 (.tmp 9) (.tmp 14), .some 15)), (none, (.load none (.tmp 15), .some 16)), (none, (.mov (.tmp 16), .some 2))] [(3, 7)]) .ret))
theorem b133 : Try.f133.body.bind (compC Try.prog) = some c133 := by kernel_rfl
theorem r133 : compR Try.prog Try.f133 = .some [.tmp 2] := by kernel_rfl
theorem n133 : (Try.f133.name == "runtime.NumGoroutine") = false := by kernel_rfl
def c138 : C := .seq
  (.reg [(none, (.box (.tmp 0), .some 1)), (none, (.mov (.const (.bool .false)), .some 2))] []) (.seq
  (.reg [(none, (.fadr 0 (.tmp 1), .some 3)), (none, (.load none (.tmp 3), .some 4)), (none, (.bin .eql (.tmp 4) (.const (.int .i64 0)), .some 5)), (none, (.mov (.tmp 5), .some 2))] []) .ret)
theorem b138 : Try.f138.body.bind (compC Try.prog) = some c138 := by kernel_rfl
theorem r138 : compR Try.prog Try.f138 = .some [.tmp 2] := by kernel_rfl
theorem n138 : (Try.f138.name == "runtime.NumGoroutine") = false := by kernel_rfl
end Go.Proofs.Ytgphhganepjaiaa
