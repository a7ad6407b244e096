/-
  The codes of the seat's functions over abstract values, each shown to be its function's own (by program: wip/tools/codes.py).
-/
import Derived.Test.YtpjkmidjjodplaaA2
import Derived.Test.YtpjkmidjjodplaaProg
import Derived.KernelRfl
namespace Go.Proofs.Ytpjkmidjjodplaa
def c14 : C := .seq
  (.reg [(none, (.mov (.const (.bool .false)), .some 4))] []) (.seq (.seq
  (.reg [(none, (.mov (.tmp 0), .some 14)), (none, (.len .false (.tmp 14), .some 15)), (none, (.bin .gtr (.tmp 15) (.const (.int .i64 500)), .some 16))] []) (.cond (.tmp 16) (.seq
  (.reg [(none, (.call (.func 27) [], .some 17)), (none, (.mov (.tmp 17), .some 4))] []) .ret) .skip)) (.seq
  (.reg [(none, (.mov (.tmp 0), .some 18)), (none, (.call (.func 53) [.tmp 18], .some 19)), (none, (.mov (.tmp 19), .some 5))] []) (.seq
  (.reg [(none, (.mov (.tmp 5), .some 20)), (none, (.mov (.tmp 1), .some 21)), (none, (.call (.func 63) [.tmp 20, .tmp 21], .some 22)), (none, (.mov (.tmp 22), .some 6))] []) (.seq
  (.reg [(none, (.mov (.tmp 0), .some 24)), (none, (.build [.slice none 0 0, .int .i64 0, .int .i64 0, .int .i64 0] [(0, (1, .tmp 24))], .some 25)), (none, (.mov (.tmp 1), .some 26)), (none, (.call (.func 64) [.tmp 25, .tmp 26], .some 27)), (none, (.mov (.tmp 27), .some 23)), (none, (.ext (.tmp 23) 0, .some 28)), (none, (.ext (.tmp 23) 1, .some 29)), (none, (.new [.slice none 0 0, .int .i64 0, .int .i64 0, .int .i64 0], .some 7)), (none, (.store 4 (.tmp 7) (.tmp 28), none)), (none, (.mov (.tmp 29), .some 8))] []) (.seq
  (.reg [(none, (.mov (.tmp 0), .some 31)), (none, (.mov (.tmp 1), .some 32)), (none, (.call (.func 61) [.tmp 31, .tmp 32], .some 33)), (none, (.mov (.tmp 33), .some 30)), (none, (.ext (.tmp 30) 0, .some 34)), (none, (.ext (.tmp 30) 1, .some 35)), (none, (.ext (.tmp 30) 2, .some 36)), (none, (.new [.int .i64 0, .int .i64 0], .some 11)), (none, (.mov (.tmp 34), .some 9)), (none, (.mov (.tmp 35), .some 10)), (none, (.store 2 (.tmp 11) (.tmp 36), none))] []) (.seq (.seq
  (.reg [(none, (.mov (.tmp 6), .some 37)), (none, (.mov (.tmp 8), .some 38)), (none, (.call (.func 21) [.tmp 37, .tmp 38], .some 39)), (none, (.un .not (.tmp 39), .some 40)), (none, (.mov (.tmp 40), .some 41)), (.some (41, .false), (.mov (.tmp 5), .some 42)), (.some (41, .false), (.call (.func 56) [.tmp 42], .some 43)), (.some (41, .false), (.fadr 2 (.tmp 7), .some 44)), (.some (41, .false), (.load (.some 2) (.tmp 44), .some 45)), (.some (41, .false), (.eqa .true 2 (.tmp 43) (.tmp 45), .some 46)), (none, (.pick (.tmp 41) (.const (.bool .true)) (.tmp 46), .some 47)), (none, (.mov (.tmp 47), .some 48)), (.some (48, .false), (.mov (.tmp 9), .some 49)), (.some (48, .false), (.mov (.tmp 8), .some 50)), (.some (48, .false), (.call (.func 21) [.tmp 49, .tmp 50], .some 51)), (.some (48, .false), (.un .not (.tmp 51), .some 52)), (none, (.pick (.tmp 48) (.const (.bool .true)) (.tmp 52), .some 53)), (none, (.mov (.tmp 53), .some 54)), (.some (54, .false), (.load (.some 2) (.tmp 11), .some 55)), (.some (54, .false), (.fadr 2 (.tmp 7), .some 56)), (.some (54, .false), (.load (.some 2) (.tmp 56), .some 57)), (.some (54, .false), (.eqa .true 2 (.tmp 55) (.tmp 57), .some 58)), (none, (.pick (.tmp 54) (.const (.bool .true)) (.tmp 58), .some 59))] [(6, 8), (18, 20)]) (.cond (.tmp 59) (.seq
  (.reg [(none, (.mov (.const (.bool .false)), .some 4))] []) .ret) .skip)) (.seq (.seq
  (.reg [(none, (.fadr 2 (.tmp 7), .some 60)), (none, (.fadr 0 (.tmp 60), .some 61)), (none, (.load none (.tmp 61), .some 62)), (none, (.bin .eql (.tmp 62) (.const (.int .i64 0)), .some 63)), (none, (.mov (.tmp 63), .some 64)), (.some (64, .true), (.mov (.tmp 10), .some 65)), (.some (64, .true), (.fadr 1 (.tmp 7), .some 66)), (.some (64, .true), (.load none (.tmp 66), .some 67)), (.some (64, .true), (.bin .neq (.tmp 65) (.tmp 67), .some 68)), (.some (64, .true), (.mov (.tmp 68), .some 69)), (.some (69, .false), (.mov (.tmp 5), .some 70)), (.some (69, .false), (.call (.func 57) [.tmp 70], .some 71)), (.some (69, .false), (.fadr 1 (.tmp 7), .some 72)), (.some (69, .false), (.load none (.tmp 72), .some 73)), (.some (69, .false), (.bin .neq (.tmp 71) (.tmp 73), .some 74)), (.some (64, .true), (.pick (.tmp 69) (.const (.bool .true)) (.tmp 74), .some 75)), (none, (.pick (.tmp 64) (.tmp 75) (.const (.bool .false)), .some 76)), (none, (.mov (.tmp 76), .some 77)), (.some (77, .false), (.fadr 2 (.tmp 7), .some 78)), (.some (77, .false), (.fadr 0 (.tmp 78), .some 79)), (.some (77, .false), (.load none (.tmp 79), .some 80)), (.some (77, .false), (.bin .neq (.tmp 80) (.const (.int .i64 0)), .some 81)), (.some (77, .false), (.mov (.tmp 81), .some 82)), (.some (82, .true), (.mov (.tmp 10), .some 83)), (.some (82, .true), (.bin .neq (.tmp 83) (.const (.int .i64 0)), .some 84)), (.some (77, .false), (.pick (.tmp 82) (.tmp 84) (.const (.bool .false)), .some 85)), (none, (.pick (.tmp 77) (.const (.bool .true)) (.tmp 85), .some 86))] [(11, 13)]) (.cond (.tmp 86) (.seq
  (.reg [(none, (.mov (.const (.bool .false)), .some 4))] []) .ret) .skip)) (.seq
  (.reg [(none, (.mov (.tmp 0), .some 88)), (none, (.mov (.tmp 1), .some 89)), (none, (.call (.func 65) [.tmp 88, .tmp 89], .some 90)), (none, (.mov (.tmp 90), .some 87)), (none, (.ext (.tmp 87) 0, .some 91)), (none, (.ext (.tmp 87) 1, .some 92)), (none, (.mov (.tmp 91), .some 12)), (none, (.mov (.tmp 92), .some 13))] []) (.seq
  (.reg [(none, (.mov (.tmp 12), .some 93)), (none, (.mov (.tmp 0), .some 94)), (none, (.mov (.tmp 1), .some 95)), (none, (.call (.func 66) [.tmp 94, .tmp 95], .some 96)), (none, (.bin .eql (.tmp 93) (.tmp 96), .some 97)), (none, (.mov (.tmp 97), .some 98)), (.some (98, .true), (.mov (.tmp 13), .some 99)), (.some (98, .true), (.mov (.tmp 12), .some 100)), (.some (98, .true), (.bin .gtr (.tmp 100) (.const (.int .i64 0)), .some 101)), (.some (98, .true), (.eqb .false (.tmp 99) (.tmp 101), .some 102)), (none, (.pick (.tmp 98) (.tmp 102) (.const (.bool .false)), .some 103)), (none, (.mov (.tmp 103), .some 104)), (.some (104, .true), (.call (.func 27) [], .some 105)), (none, (.pick (.tmp 104) (.tmp 105) (.const (.bool .false)), .some 106)), (none, (.mov (.tmp 106), .some 4))] []) .ret)))))))))
theorem b14 : Try.f14.body.bind (compC Try.prog) = some c14 := by kernel_rfl
theorem r14 : compR Try.prog Try.f14 = .some [.tmp 4] := by kernel_rfl
theorem n14 : (Try.f14.name == "runtime.NumGoroutine") = false := by kernel_rfl
def c15 : C := .seq
  (.reg [(none, (.mov (.const (.bool .false)), .some 6))] []) (.seq (.seq
  (.reg [(none, (.mov (.tmp 0), .some 15)), (none, (.len .false (.tmp 15), .some 16)), (none, (.bin .gtr (.tmp 16) (.const (.int .i64 300)), .some 17))] []) (.cond (.tmp 17) (.seq
  (.reg [(none, (.call (.func 27) [], .some 18)), (none, (.mov (.tmp 18), .some 6))] []) .ret) .skip)) (.seq
  (.reg [(none, (.mov (.tmp 0), .some 20)), (none, (.mov (.tmp 1), .some 21)), (none, (.mov (.tmp 2), .some 22)), (none, (.call (.func 67) [.tmp 20, .tmp 21, .tmp 22], .some 23)), (none, (.mov (.tmp 23), .some 19)), (none, (.ext (.tmp 19) 0, .some 24)), (none, (.ext (.tmp 19) 1, .some 25)), (none, (.mov (.tmp 24), .some 7)), (none, (.mov (.tmp 25), .some 8))] []) (.seq
  (.reg [(none, (.mov (.tmp 0), .some 26)), (none, (.mov (.tmp 1), .some 27)), (none, (.mov (.tmp 2), .some 28)), (none, (.call (.func 68) [.tmp 26, .tmp 27, .tmp 28], .some 29)), (none, (.mov (.tmp 29), .some 9))] []) (.seq (.seq
  (.reg [(none, (.mov (.tmp 8), .some 30)), (none, (.mov (.tmp 9), .some 31)), (none, (.bin .geq (.tmp 31) (.const (.int .i64 0)), .some 32)), (none, (.eqb .true (.tmp 30) (.tmp 32), .some 33)), (none, (.mov (.tmp 33), .some 34)), (.some (34, .false), (.mov (.tmp 7), .some 35)), (.some (34, .false), (.mov (.tmp 9), .some 36)), (.some (34, .false), (.mx .true (.tmp 36) (.const (.int .i64 0)), .some 37)), (.some (34, .false), (.bin .neq (.tmp 35) (.tmp 37), .some 38)), (none, (.pick (.tmp 34) (.const (.bool .true)) (.tmp 38), .some 39))] []) (.cond (.tmp 39) (.seq
  (.reg [(none, (.mov (.const (.bool .false)), .some 6))] []) .ret) .skip)) (.seq
  (.reg [(none, (.mov (.tmp 0), .some 40)), (none, (.mov (.tmp 2), .some 41)), (none, (.call (.func 69) [.tmp 40, .tmp 41], .some 42)), (none, (.mov (.tmp 42), .some 10))] []) (.seq
  (.reg [(none, (.mov (.const (.int .i64 0)), .some 11))] []) (.seq (.seq
  (.reg [(none, (.mov (.const (.int .i64 0)), .some 12))] []) (.block 0 (.loop (.seq (.seq
  (.reg [(none, (.mov (.tmp 12), .some 43)), (none, (.mov (.tmp 10), .some 44)), (none, (.len .false (.tmp 44), .some 45)), (none, (.bin .lss (.tmp 43) (.tmp 45), .some 46))] []) (.cond (.tmp 46) .skip (.exit 0))) (.seq (.block 1 (.seq (.seq
  (.reg [(none, (.mov (.tmp 10), .some 49)), (none, (.mov (.tmp 12), .some 50)), (none, (.iadr 1 (.tmp 49) (.tmp 50), .some 51)), (none, (.load none (.tmp 51), .some 52)), (none, (.mov (.tmp 0), .some 53)), (none, (.mov (.tmp 11), .some 54)), (none, (.mov (.tmp 2), .some 55)), (none, (.call (.func 68) [.tmp 53, .tmp 54, .tmp 55], .some 56)), (none, (.bin .neq (.tmp 52) (.tmp 56), .some 57))] [(3, 7)]) (.cond (.tmp 57) (.seq
  (.reg [(none, (.mov (.const (.bool .false)), .some 6))] []) .ret) .skip)) (.seq
  (.reg [(none, (.mov (.tmp 0), .some 59)), (none, (.mov (.tmp 10), .some 60)), (none, (.mov (.tmp 12), .some 61)), (none, (.iadr 1 (.tmp 60) (.tmp 61), .some 62)), (none, (.load none (.tmp 62), .some 63)), (none, (.slice 1 (.tmp 59) (.some (.tmp 63)) none none, .some 64)), (none, (.build [.slice none 0 0, .int .i64 0, .int .i64 0, .int .i64 0] [(0, (1, .tmp 64))], .some 65)), (none, (.mov (.tmp 2), .some 66)), (none, (.call (.func 64) [.tmp 65, .tmp 66], .some 67)), (none, (.mov (.tmp 67), .some 58)), (none, (.ext (.tmp 58) 0, .some 68)), (none, (.ext (.tmp 58) 1, .some 69)), (none, (.new [.slice none 0 0, .int .i64 0, .int .i64 0, .int .i64 0], .some 13)), (none, (.store 4 (.tmp 13) (.tmp 68), none)), (none, (.mov (.tmp 69), .some 14))] [])
  (.reg [(none, (.mov (.tmp 10), .some 70)), (none, (.mov (.tmp 12), .some 71)), (none, (.iadr 1 (.tmp 70) (.tmp 71), .some 72)), (none, (.load none (.tmp 72), .some 73)), (none, (.fadr 1 (.tmp 13), .some 74)), (none, (.load none (.tmp 74), .some 75)), (none, (.bin .add (.tmp 73) (.tmp 75), .some 76)), (none, (.mov (.tmp 76), .some 11))] [(3, 5)]))))
  (.reg [(none, (.mov (.tmp 12), .some 47)), (none, (.bin .add (.tmp 47) (.const (.int .i64 1)), .some 48)), (none, (.mov (.tmp 48), .some 12))] [])))))) (.seq
  (.reg [(none, (.mov (.tmp 0), .some 77)), (none, (.mov (.tmp 11), .some 78)), (none, (.mov (.tmp 2), .some 79)), (none, (.call (.func 68) [.tmp 77, .tmp 78, .tmp 79], .some 80)), (none, (.bin .lss (.tmp 80) (.const (.int .i64 0)), .some 81)), (none, (.mov (.tmp 81), .some 82)), (.some (82, .true), (.call (.func 27) [], .some 83)), (none, (.pick (.tmp 82) (.tmp 83) (.const (.bool .false)), .some 84)), (none, (.mov (.tmp 84), .some 6))] []) .ret))))))))
theorem b15 : Try.f15.body.bind (compC Try.prog) = some c15 := by kernel_rfl
theorem r15 : compR Try.prog Try.f15 = .some [.tmp 6] := by kernel_rfl
theorem n15 : (Try.f15.name == "runtime.NumGoroutine") = false := by kernel_rfl
def c29 : C := .seq
  (.reg [(none, (.mov (.const (.pointer none)), .some 2))] []) (.seq
  (.reg [(none, (.mov (.tmp 0), .some 3)), (none, (.mx .true (.tmp 3) (.const (.int .i64 0)), .some 4)), (none, (.build [.int .i64 0, .slice none 0 0, .int .i64 0] [(0, (1, .tmp 4))], .some 5)), (none, (.box (.tmp 5), .some 6)), (none, (.mov (.tmp 6), .some 2))] []) .ret)
theorem b29 : Try.f29.body.bind (compC Try.prog) = some c29 := by kernel_rfl
theorem r29 : compR Try.prog Try.f29 = .some [.tmp 2] := by kernel_rfl
theorem n29 : (Try.f29.name == "runtime.NumGoroutine") = false := by kernel_rfl
def c32 : C := .seq
  (.reg [(none, (.mov (.const (.slice none 0 0)), .some 2)), (none, (.mov (.const (.int .i64 0)), .some 3))] []) (.seq (.seq
  (.reg [(none, (.mov (.tmp 0), .some 5)), (none, (.call (.func 76) [.tmp 5], .some 6)), (none, (.mov (.tmp 6), .some 4))] []) (.seq
  (.reg [(none, (.mov (.tmp 4), .some 7)), (none, (.bin .neq (.tmp 7) (.const (.int .i64 0)), .some 8))] []) (.cond (.tmp 8) (.seq
  (.reg [(none, (.mov (.tmp 4), .some 9)), (none, (.mov (.const (.slice none 0 0)), .some 2)), (none, (.mov (.tmp 9), .some 3))] []) .ret) .skip))) (.seq
  (.reg [(none, (.bsl 1 [], .some 10)), (none, (.mov (.tmp 0), .some 11)), (none, (.nilc (.tmp 11), .some 12)), (none, (.fadr 1 (.tmp 12), .some 13)), (none, (.load none (.tmp 13), .some 14)), (none, (.app 1 1 (.tmp 10) (.tmp 14), .some 15)), (none, (.mov (.tmp 15), .some 2)), (none, (.mov (.const (.int .i64 0)), .some 3))] []) .ret))
theorem b32 : Try.f32.body.bind (compC Try.prog) = some c32 := by kernel_rfl
theorem r32 : compR Try.prog Try.f32 = .some [.tmp 2, .tmp 3] := by kernel_rfl
theorem n32 : (Try.f32.name == "runtime.NumGoroutine") = false := by kernel_rfl
def c36 : C := .seq
  (.reg [(none, (.mov (.const (.int .i64 0)), .some 2))] []) (.seq
  (.reg [(none, (.mov (.tmp 0), .some 3)), (none, (.call (.func 35) [.tmp 3], .some 4)), (none, (.mov (.tmp 4), .some 2))] []) .ret)
theorem b36 : Try.f36.body.bind (compC Try.prog) = some c36 := by kernel_rfl
theorem r36 : compR Try.prog Try.f36 = .some [.tmp 2] := by kernel_rfl
theorem n36 : (Try.f36.name == "runtime.NumGoroutine") = false := by kernel_rfl
def c53 : C := .seq
  (.reg [(none, (.mov (.const (.pointer none)), .some 2))] []) (.seq
  (.reg [(none, (.mov (.tmp 0), .some 3)), (none, (.mov (.tmp 0), .some 4)), (none, (.len .false (.tmp 4), .some 5)), (none, (.mov (.tmp 0), .some 6)), (none, (.len .false (.tmp 6), .some 7)), (none, (.slice 1 (.tmp 3) none (.some (.tmp 5)) (.some (.tmp 7)), .some 8)), (none, (.build [.slice none 0 0, .int .i64 0, .int .i64 0, .int .i64 0] [(0, (1, .tmp 8))], .some 9)), (none, (.box (.tmp 9), .some 10)), (none, (.mov (.tmp 10), .some 2))] []) .ret)
theorem b53 : Try.f53.body.bind (compC Try.prog) = some c53 := by kernel_rfl
theorem r53 : compR Try.prog Try.f53 = .some [.tmp 2] := by kernel_rfl
theorem n53 : (Try.f53.name == "runtime.NumGoroutine") = false := by kernel_rfl
def c62 : C := .seq
  (.reg [(none, (.mov (.const (.slice none 0 0)), .some 6))] []) (.seq
  (.reg [(none, (.mov (.const (.slice none 0 0)), .some 7))] []) (.seq (.seq
  (.reg [(none, (.mov (.const (.int .i64 0)), .some 8))] []) (.block 0 (.loop (.seq (.seq
  (.reg [(none, (.mov (.tmp 8), .some 12)), (none, (.mov (.tmp 0), .some 13)), (none, (.len .false (.tmp 13), .some 14)), (none, (.bin .lss (.tmp 12) (.tmp 14), .some 15))] []) (.cond (.tmp 15) .skip (.exit 0))) (.seq (.block 1 (.seq
  (.reg [(none, (.mov (.tmp 0), .some 18)), (none, (.mov (.tmp 8), .some 19)), (none, (.iadr 1 (.tmp 18) (.tmp 19), .some 20)), (none, (.load none (.tmp 20), .some 21)), (none, (.mov (.tmp 21), .some 9))] []) (.seq (.seq
  (.reg [(none, (.mov (.const (.int .i64 0)), .some 10))] []) (.block 2 (.loop (.seq (.seq
  (.reg [(none, (.mov (.tmp 10), .some 22)), (none, (.bin .lss (.tmp 22) (.const (.int .i64 8)), .some 23))] []) (.cond (.tmp 23) .skip (.exit 2))) (.seq (.block 3 (.seq
  (.reg [(none, (.mov (.tmp 8), .some 26)), (none, (.bin .mul (.const (.int .i64 8)) (.tmp 26), .some 27)), (none, (.mov (.tmp 10), .some 28)), (none, (.bin .add (.tmp 27) (.tmp 28), .some 29)), (none, (.mov (.tmp 1), .some 30)), (none, (.bin .sub (.tmp 29) (.tmp 30), .some 31)), (none, (.mov (.tmp 31), .some 11))] []) (.seq
  (.reg [(none, (.mov (.tmp 11), .some 32)), (none, (.bin .geq (.tmp 32) (.const (.int .i64 0)), .some 33)), (none, (.mov (.tmp 33), .some 34)), (.some (34, .true), (.mov (.tmp 11), .some 35)), (.some (34, .true), (.bin .lss (.tmp 35) (.const (.int .i64 32)), .some 36)), (none, (.pick (.tmp 34) (.tmp 36) (.const (.bool .false)), .some 37)), (none, (.mov (.tmp 37), .some 38)), (.some (38, .true), (.mov (.tmp 2), .some 39)), (.some (38, .true), (.mov (.tmp 11), .some 40)), (.some (38, .true), (.cvt .u64 (.tmp 40), .some 41)), (.some (38, .true), (.bin .shr (.tmp 39) (.tmp 41), .some 42)), (.some (38, .true), (.bin .rem (.tmp 42) (.const (.int .u32 2)), .some 43)), (.some (38, .true), (.bin .eql (.tmp 43) (.const (.int .u32 1)), .some 44)), (none, (.pick (.tmp 38) (.tmp 44) (.const (.bool .false)), .some 45))] []) (.cond (.tmp 45)
  (.reg [(none, (.mov (.tmp 9), .some 46)), (none, (.mov (.tmp 10), .some 47)), (none, (.cvt .u64 (.tmp 47), .some 48)), (none, (.bin .shl (.const (.int .u8 1)) (.tmp 48), .some 49)), (none, (.bin .xor (.tmp 46) (.tmp 49), .some 50)), (none, (.mov (.tmp 50), .some 9))] []) .skip))))
  (.reg [(none, (.mov (.tmp 10), .some 24)), (none, (.bin .add (.tmp 24) (.const (.int .i64 1)), .some 25)), (none, (.mov (.tmp 25), .some 10))] []))))))
  (.reg [(none, (.mov (.tmp 7), .some 51)), (none, (.mov (.tmp 9), .some 52)), (none, (.bsl 1 [.tmp 52], .some 53)), (none, (.app 1 1 (.tmp 51) (.tmp 53), .some 54)), (none, (.mov (.tmp 54), .some 7))] []))))
  (.reg [(none, (.mov (.tmp 8), .some 16)), (none, (.bin .add (.tmp 16) (.const (.int .i64 1)), .some 17)), (none, (.mov (.tmp 17), .some 8))] [])))))) (.seq
  (.reg [(none, (.mov (.tmp 7), .some 55)), (none, (.mov (.tmp 55), .some 6))] []) .ret)))
theorem b62 : Try.f62.body.bind (compC Try.prog) = some c62 := by kernel_rfl
theorem r62 : compR Try.prog Try.f62 = .some [.tmp 6] := by kernel_rfl
theorem n62 : (Try.f62.name == "runtime.NumGoroutine") = false := by kernel_rfl
def c65 : C := .seq
  (.reg [(none, (.mov (.const (.int .i64 0)), .some 4)), (none, (.mov (.const (.bool .false)), .some 5))] []) (.seq
  (.reg [(none, (.mov (.tmp 0), .some 8)), (none, (.call (.func 53) [.tmp 8], .some 9)), (none, (.mov (.tmp 9), .some 6))] []) (.seq
  (.reg [(none, (.mov (.tmp 6), .some 10)), (none, (.mov (.tmp 1), .some 11)), (none, (.call (.func 101) [.tmp 11], .some 12)), (none, (.call (.func 106) [.tmp 10, .tmp 12], .some 13)), (none, (.mov (.tmp 13), .some 7))] []) (.seq (.seq
  (.reg [(none, (.mov (.tmp 6), .some 14)), (none, (.call (.func 60) [.tmp 14], .some 15)), (none, (.un .not (.tmp 15), .some 16))] []) (.cond (.tmp 16) (.seq
  (.reg [(none, (.mov (.const (.int .i64 0)), .some 4)), (none, (.mov (.const (.bool .false)), .some 5))] []) .ret) .skip)) (.seq
  (.reg [(none, (.mov (.tmp 7), .some 17)), (none, (.call (.func 35) [.tmp 17], .some 18)), (none, (.mov (.tmp 18), .some 4)), (none, (.mov (.const (.bool .true)), .some 5))] []) .ret))))
theorem b65 : Try.f65.body.bind (compC Try.prog) = some c65 := by kernel_rfl
theorem r65 : compR Try.prog Try.f65 = .some [.tmp 4, .tmp 5] := by kernel_rfl
theorem n65 : (Try.f65.name == "runtime.NumGoroutine") = false := by kernel_rfl
def c76 : C := .seq
  (.reg [(none, (.mov (.const (.int .i64 0)), .some 2))] []) (.seq (.seq
  (.reg [(none, (.mov (.tmp 0), .some 3)), (none, (.eqp .false (.tmp 3) (.const (.pointer none)), .some 4))] []) (.cond (.tmp 4) (.seq
  (.reg [(none, (.mov (.const (.int .i64 19)), .some 2))] []) .ret) .skip)) (.seq
  (.reg [(none, (.mov (.tmp 0), .some 5)), (none, (.nilc (.tmp 5), .some 6)), (none, (.fadr 2 (.tmp 6), .some 7)), (none, (.load none (.tmp 7), .some 8)), (none, (.mov (.tmp 8), .some 2))] []) .ret))
theorem b76 : Try.f76.body.bind (compC Try.prog) = some c76 := by kernel_rfl
theorem r76 : compR Try.prog Try.f76 = .some [.tmp 2] := by kernel_rfl
theorem n76 : (Try.f76.name == "runtime.NumGoroutine") = false := by kernel_rfl
def c81 : C := .seq
  (.reg [(none, (.mov (.const (.int .u32 0)), .some 2))] []) (.seq
  (.reg [(none, (.call (.func 111) [], .some 3)), (none, (.mov (.tmp 0), .some 4)), (none, (.call (.func 110) [.tmp 3, .tmp 4], .some 5)), (none, (.call (.func 109) [.tmp 5], .some 6)), (none, (.mov (.tmp 6), .some 2))] []) .ret)
theorem b81 : Try.f81.body.bind (compC Try.prog) = some c81 := by kernel_rfl
theorem r81 : compR Try.prog Try.f81 = .some [.tmp 2] := by kernel_rfl
theorem n81 : (Try.f81.name == "runtime.NumGoroutine") = false := by kernel_rfl
def c91 : C := .seq
  (.reg [(none, (.mov (.const (.int .i64 0)), .some 2))] []) (.seq (.seq
  (.reg [(none, (.mov (.tmp 0), .some 3)), (none, (.eqp .false (.tmp 3) (.const (.pointer none)), .some 4))] []) (.cond (.tmp 4) (.seq
  (.reg [(none, (.mov (.const (.int .i64 0)), .some 2))] []) .ret) .skip)) (.seq
  (.reg [(none, (.mov (.tmp 0), .some 5)), (none, (.nilc (.tmp 5), .some 6)), (none, (.fadr 0 (.tmp 6), .some 7)), (none, (.load none (.tmp 7), .some 8)), (none, (.len .false (.tmp 8), .some 9)), (none, (.mov (.tmp 0), .some 10)), (none, (.nilc (.tmp 10), .some 11)), (none, (.fadr 1 (.tmp 11), .some 12)), (none, (.load none (.tmp 12), .some 13)), (none, (.bin .sub (.tmp 9) (.tmp 13), .some 14)), (none, (.mov (.tmp 14), .some 2))] [(3, 8)]) .ret))
theorem b91 : Try.f91.body.bind (compC Try.prog) = some c91 := by kernel_rfl
theorem r91 : compR Try.prog Try.f91 = .some [.tmp 2] := by kernel_rfl
theorem n91 : (Try.f91.name == "runtime.NumGoroutine") = false := by kernel_rfl
def c92 : C := .seq
  (.reg [(none, (.mov (.tmp 0), .some 6)), (none, (.call (.func 60) [.tmp 6], .some 7))] []) (.cond (.tmp 7)
  (.reg [(none, (.mov (.tmp 0), .some 8)), (none, (.mov (.tmp 1), .some 9)), (none, (.mov (.tmp 2), .some 10)), (none, (.call (.func 71) [.tmp 9, .tmp 10], .some 11)), (none, (.nilc (.tmp 8), .some 12)), (none, (.fadr 2 (.tmp 12), .some 13)), (none, (.store 2 (.tmp 13) (.tmp 11), none))] []) .skip)
theorem b92 : Try.f92.body.bind (compC Try.prog) = some c92 := by kernel_rfl
theorem r92 : compR Try.prog Try.f92 = .some [] := by kernel_rfl
theorem n92 : (Try.f92.name == "runtime.NumGoroutine") = false := by kernel_rfl
def c97 : C := .seq
  (.reg [(none, (.box (.tmp 0), .some 3)), (none, (.new [.slice none 0 0, .int .i64 0, .int .i64 0, .int .i64 0], .some 6))] []) (.seq (.seq
  (.reg [(none, (.fadr 2 (.tmp 3), .some 7)), (none, (.fadr 0 (.tmp 7), .some 8)), (none, (.load none (.tmp 8), .some 9)), (none, (.bin .eql (.tmp 9) (.const (.int .i64 0)), .some 10))] []) (.cond (.tmp 10)
  (.reg [(none, (.mov (.tmp 1), .some 11)), (none, (.mov (.tmp 2), .some 12)), (none, (.call (.func 73) [.tmp 11, .tmp 12], .some 13)), (none, (.fadr 2 (.tmp 3), .some 14)), (none, (.store 2 (.tmp 14) (.tmp 13), none))] []) .skip)) (.seq
  (.reg [(none, (.load (.some 4) (.tmp 3), .some 15)), (none, (.store 4 (.tmp 6) (.tmp 15), none))] []) .ret))
theorem b97 : Try.f97.body.bind (compC Try.prog) = some c97 := by kernel_rfl
theorem r97 : compR Try.prog Try.f97 = .some [.cell 6 (.some 4)] := by kernel_rfl
theorem n97 : (Try.f97.name == "runtime.NumGoroutine") = false := by kernel_rfl
def c102 : C := .seq
  (.reg [(none, (.mov (.const (.int .u64 0)), .some 4))] []) (.seq
  (.reg [(none, (.mov (.const (.int .u64 0)), .some 5))] []) (.seq (.seq
  (.reg [(none, (.mov (.tmp 0), .some 8)), (none, (.mov (.tmp 1), .some 9)), (none, (.mx .true (.tmp 9) (.const (.int .i64 0)), .some 10)), (none, (.mx .false (.tmp 10) (.const (.int .i64 8)), .some 11)), (none, (.call (.func 93) [.tmp 8, .tmp 11], .some 12)), (none, (.len .false (.tmp 12), .some 13)), (none, (.mov (.const (.int .i64 0)), .some 14))] []) (.block 0 (.loop (.seq
  (.reg [(none, (.bin .lss (.tmp 14) (.tmp 13), .some 15))] []) (.seq (.cond (.tmp 15) .skip (.exit 0)) (.seq (.block 1 (.seq
  (.reg [(none, (.mov (.tmp 14), .some 16)), (none, (.iadr 1 (.tmp 12) (.tmp 14), .some 17)), (none, (.load none (.tmp 17), .some 18)), (none, (.mov (.tmp 16), .some 6)), (none, (.mov (.tmp 18), .some 7))] [])
  (.reg [(none, (.mov (.tmp 5), .some 19)), (none, (.mov (.tmp 7), .some 20)), (none, (.cvt .u64 (.tmp 20), .some 21)), (none, (.mov (.tmp 6), .some 22)), (none, (.bin .mul (.const (.int .i64 8)) (.tmp 22), .some 23)), (none, (.bin .shl (.tmp 21) (.tmp 23), .some 24)), (none, (.bin .or (.tmp 19) (.tmp 24), .some 25)), (none, (.mov (.tmp 25), .some 5))] [])))
  (.reg [(none, (.bin .add (.tmp 14) (.const (.int .i64 1)), .some 26)), (none, (.mov (.tmp 26), .some 14))] []))))))) (.seq
  (.reg [(none, (.mov (.tmp 5), .some 27)), (none, (.mov (.tmp 27), .some 4))] []) .ret)))
theorem b102 : Try.f102.body.bind (compC Try.prog) = some c102 := by kernel_rfl
theorem r102 : compR Try.prog Try.f102 = .some [.tmp 4] := by kernel_rfl
theorem n102 : (Try.f102.name == "runtime.NumGoroutine") = false := by kernel_rfl
def c104 : C := .seq
  (.reg [(none, (.box (.tmp 0), .some 2)), (none, (.new [.slice none 0 0, .int .i64 0, .int .i64 0, .int .i64 0], .some 4)), (none, (.mov (.const (.slice none 0 0)), .some 5))] []) (.seq
  (.reg [(none, (.load (.some 4) (.tmp 2), .some 9)), (none, (.mov (.tmp 1), .some 10)), (none, (.call (.func 107) [.tmp 9, .tmp 10], .some 11)), (none, (.mov (.tmp 11), .some 8)), (none, (.ext (.tmp 8) 0, .some 12)), (none, (.ext (.tmp 8) 1, .some 13)), (none, (.new [.slice none 0 0, .int .i64 0, .int .i64 0, .int .i64 0], .some 6)), (none, (.store 4 (.tmp 6) (.tmp 12), none)), (none, (.mov (.tmp 13), .some 7))] []) (.seq
  (.reg [(none, (.load (.some 4) (.tmp 6), .some 14)), (none, (.mov (.tmp 7), .some 15)), (none, (.call (.func 98) [.tmp 14, .tmp 15], .some 16)), (none, (.ext (.tmp 16) 0, .some 17)), (none, (.ext (.tmp 16) 1, .some 18)), (none, (.store 4 (.tmp 4) (.tmp 17), none)), (none, (.mov (.tmp 18), .some 5))] []) .ret))
theorem b104 : Try.f104.body.bind (compC Try.prog) = some c104 := by kernel_rfl
theorem r104 : compR Try.prog Try.f104 = .some [.cell 4 (.some 4), .tmp 5] := by kernel_rfl
theorem n104 : (Try.f104.name == "runtime.NumGoroutine") = false := by kernel_rfl
def c105 : C := .seq
  (.reg [(none, (.box (.tmp 0), .some 2)), (none, (.new [.slice none 0 0, .int .i64 0, .int .i64 0, .int .i64 0], .some 4)), (none, (.mov (.const (.int .u64 0)), .some 5))] []) (.seq
  (.reg [(none, (.load (.some 4) (.tmp 2), .some 11)), (none, (.mov (.tmp 1), .some 12)), (none, (.mx .true (.tmp 12) (.const (.int .i64 0)), .some 13)), (none, (.mx .false (.tmp 13) (.const (.int .i64 8)), .some 14)), (none, (.call (.func 98) [.tmp 11, .tmp 14], .some 15)), (none, (.mov (.tmp 15), .some 10)), (none, (.ext (.tmp 10) 0, .some 16)), (none, (.ext (.tmp 10) 1, .some 17)), (none, (.new [.slice none 0 0, .int .i64 0, .int .i64 0, .int .i64 0], .some 6)), (none, (.store 4 (.tmp 6) (.tmp 16), none)), (none, (.mov (.tmp 17), .some 7))] []) (.seq
  (.reg [(none, (.mov (.const (.int .u64 0)), .some 8))] []) (.seq (.seq
  (.reg [(none, (.mov (.tmp 7), .some 18)), (none, (.len .false (.tmp 18), .some 19)), (none, (.bin .sub (.tmp 19) (.const (.int .i64 1)), .some 20)), (none, (.mov (.tmp 20), .some 9))] []) (.block 0 (.loop (.seq (.seq
  (.reg [(none, (.mov (.tmp 9), .some 21)), (none, (.bin .geq (.tmp 21) (.const (.int .i64 0)), .some 22))] []) (.cond (.tmp 22) .skip (.exit 0))) (.seq (.block 1
  (.reg [(none, (.mov (.tmp 8), .some 25)), (none, (.bin .mul (.const (.int .u64 256)) (.tmp 25), .some 26)), (none, (.mov (.tmp 7), .some 27)), (none, (.mov (.tmp 9), .some 28)), (none, (.iadr 1 (.tmp 27) (.tmp 28), .some 29)), (none, (.load none (.tmp 29), .some 30)), (none, (.cvt .u64 (.tmp 30), .some 31)), (none, (.bin .add (.tmp 26) (.tmp 31), .some 32)), (none, (.mov (.tmp 32), .some 8))] []))
  (.reg [(none, (.mov (.tmp 9), .some 23)), (none, (.bin .sub (.tmp 23) (.const (.int .i64 1)), .some 24)), (none, (.mov (.tmp 24), .some 9))] [])))))) (.seq
  (.reg [(none, (.load (.some 4) (.tmp 6), .some 33)), (none, (.mov (.tmp 8), .some 34)), (none, (.store 4 (.tmp 4) (.tmp 33), none)), (none, (.mov (.tmp 34), .some 5))] []) .ret))))
theorem b105 : Try.f105.body.bind (compC Try.prog) = some c105 := by kernel_rfl
theorem r105 : compR Try.prog Try.f105 = .some [.cell 4 (.some 4), .tmp 5] := by kernel_rfl
theorem n105 : (Try.f105.name == "runtime.NumGoroutine") = false := by kernel_rfl
def c107 : C := .seq
  (.reg [(none, (.box (.tmp 0), .some 2)), (none, (.new [.slice none 0 0, .int .i64 0, .int .i64 0, .int .i64 0], .some 4)), (none, (.mov (.const (.int .i64 0)), .some 5))] []) (.seq (.seq
  (.reg [(none, (.mov (.tmp 1), .some 10)), (none, (.bin .geq (.tmp 10) (.const (.int .i64 0)), .some 11))] []) (.cond (.tmp 11) (.seq
  (.reg [(none, (.load (.some 4) (.tmp 2), .some 13)), (none, (.mov (.tmp 1), .some 14)), (none, (.cvt .u64 (.tmp 14), .some 15)), (none, (.call (.func 119) [.tmp 13, .tmp 15], .some 16)), (none, (.mov (.tmp 16), .some 12)), (none, (.ext (.tmp 12) 0, .some 17)), (none, (.ext (.tmp 12) 1, .some 18)), (none, (.new [.slice none 0 0, .int .i64 0, .int .i64 0, .int .i64 0], .some 6)), (none, (.store 4 (.tmp 6) (.tmp 17), none)), (none, (.mov (.tmp 18), .some 7))] []) (.seq
  (.reg [(none, (.load (.some 4) (.tmp 6), .some 19)), (none, (.mov (.tmp 7), .some 20)), (none, (.cvt .i64 (.tmp 20), .some 21)), (none, (.store 4 (.tmp 4) (.tmp 19), none)), (none, (.mov (.tmp 21), .some 5))] []) .ret)) .skip)) (.seq
  (.reg [(none, (.load (.some 4) (.tmp 2), .some 23)), (none, (.call (.func 95) [.tmp 23], .some 24)), (none, (.mov (.tmp 24), .some 22)), (none, (.ext (.tmp 22) 0, .some 25)), (none, (.ext (.tmp 22) 1, .some 26)), (none, (.new [.slice none 0 0, .int .i64 0, .int .i64 0, .int .i64 0], .some 8)), (none, (.store 4 (.tmp 8) (.tmp 25), none)), (none, (.mov (.tmp 26), .some 9))] []) (.seq
  (.reg [(none, (.load (.some 4) (.tmp 8), .some 27)), (none, (.fadr 1 (.tmp 2), .some 28)), (none, (.load none (.tmp 28), .some 29)), (none, (.call (.func 97) [.tmp 27, .const (.int .i64 2), .tmp 29], .some 30)), (none, (.store 4 (.tmp 4) (.tmp 30), none)), (none, (.mov (.const (.int .i64 0)), .some 5))] []) .ret)))
theorem b107 : Try.f107.body.bind (compC Try.prog) = some c107 := by kernel_rfl
theorem r107 : compR Try.prog Try.f107 = .some [.cell 4 (.some 4), .tmp 5] := by kernel_rfl
theorem n107 : (Try.f107.name == "runtime.NumGoroutine") = false := by kernel_rfl
def c119 : C := .seq
  (.reg [(none, (.box (.tmp 0), .some 2)), (none, (.new [.slice none 0 0, .int .i64 0, .int .i64 0, .int .i64 0], .some 4)), (none, (.mov (.const (.int .u64 0)), .some 5))] []) (.seq
  (.reg [(none, (.fadr 1 (.tmp 2), .some 9)), (none, (.load none (.tmp 9), .some 10)), (none, (.mov (.tmp 10), .some 6))] []) (.seq
  (.reg [(none, (.load (.some 4) (.tmp 2), .some 12)), (none, (.call (.func 95) [.tmp 12], .some 13)), (none, (.mov (.tmp 13), .some 11)), (none, (.ext (.tmp 11) 0, .some 14)), (none, (.ext (.tmp 11) 1, .some 15)), (none, (.new [.slice none 0 0, .int .i64 0, .int .i64 0, .int .i64 0], .some 7)), (none, (.store 4 (.tmp 7) (.tmp 14), none)), (none, (.mov (.tmp 15), .some 8))] []) (.seq (.seq
  (.reg [(none, (.mov (.tmp 8), .some 16)), (none, (.mov (.tmp 1), .some 17)), (none, (.bin .gtr (.tmp 16) (.tmp 17), .some 18))] []) (.cond (.tmp 18) (.seq
  (.reg [(none, (.load (.some 4) (.tmp 7), .some 19)), (none, (.mov (.tmp 6), .some 20)), (none, (.call (.func 97) [.tmp 19, .const (.int .i64 2), .tmp 20], .some 21)), (none, (.store 4 (.tmp 4) (.tmp 21), none)), (none, (.mov (.const (.int .u64 0)), .some 5))] []) .ret) .skip)) (.seq
  (.reg [(none, (.load (.some 4) (.tmp 7), .some 22)), (none, (.mov (.tmp 8), .some 23)), (none, (.store 4 (.tmp 4) (.tmp 22), none)), (none, (.mov (.tmp 23), .some 5))] []) .ret))))
theorem b119 : Try.f119.body.bind (compC Try.prog) = some c119 := by kernel_rfl
theorem r119 : compR Try.prog Try.f119 = .some [.cell 4 (.some 4), .tmp 5] := by kernel_rfl
theorem n119 : (Try.f119.name == "runtime.NumGoroutine") = false := by kernel_rfl
end Go.Proofs.Ytpjkmidjjodplaa
