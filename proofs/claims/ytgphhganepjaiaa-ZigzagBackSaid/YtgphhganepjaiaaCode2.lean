/-
  The codes of the seat's functions over abstract values, each shown to be its function's own (by program: wip/tools/codes.py).
-/
import Derived.Test.YtgphhganepjaiaaA2
import Derived.Test.YtgphhganepjaiaaProg
import Derived.KernelRfl
namespace Go.Proofs.Ytgphhganepjaiaa
def c2 : C := .reg [(none, (.call (.func 1) [], .some 0))] []
theorem b2 : Try.f2.body.bind (compC Try.prog) = some c2 := by kernel_rfl
theorem r2 : compR Try.prog Try.f2 = .some [] := by kernel_rfl
theorem n2 : (Try.f2.name == "runtime.NumGoroutine") = false := by kernel_rfl
def c11 : C := .seq
  (.reg [(none, (.mov (.const (.bool .false)), .some 2))] []) (.seq (.seq
  (.reg [(none, (.mov (.tmp 0), .some 9)), (none, (.len .false (.tmp 9), .some 10)), (none, (.bin .gtr (.tmp 10) (.const (.int .i64 100)), .some 11))] []) (.cond (.tmp 11) (.seq
  (.reg [(none, (.call (.func 66) [], .some 12)), (none, (.mov (.tmp 12), .some 2))] []) .ret) .skip)) (.seq
  (.reg [(none, (.mov (.tmp 0), .some 13)), (none, (.call (.func 67) [.tmp 13], .some 14)), (none, (.mov (.tmp 14), .some 3))] []) (.seq
  (.reg [(none, (.mov (.tmp 0), .some 16)), (none, (.call (.func 68) [.tmp 16], .some 17)), (none, (.mov (.tmp 17), .some 15)), (none, (.ext (.tmp 15) 0, .some 18)), (none, (.ext (.tmp 15) 1, .some 19)), (none, (.mov (.tmp 18), .some 4)), (none, (.mov (.tmp 19), .some 5))] []) (.seq (.seq
  (.reg [(none, (.mov (.tmp 0), .some 20)), (none, (.call (.func 69) [.tmp 20], .some 21)), (none, (.un .not (.tmp 21), .some 22)), (none, (.mov (.tmp 22), .some 23)), (.some (23, .false), (.mov (.tmp 0), .some 24)), (.some (23, .false), (.len .false (.tmp 24), .some 25)), (.some (23, .false), (.bin .eql (.tmp 25) (.const (.int .i64 0)), .some 26)), (none, (.pick (.tmp 23) (.const (.bool .true)) (.tmp 26), .some 27))] []) (.cond (.tmp 27) (.seq
  (.reg [(none, (.mov (.tmp 3), .some 28)), (none, (.bin .eql (.tmp 28) (.const (.int .i64 0)), .some 29)), (none, (.mov (.tmp 29), .some 30)), (.some (30, .true), (.mov (.tmp 4), .some 31)), (.some (30, .true), (.bin .eql (.tmp 31) (.const (.int .u64 0)), .some 32)), (none, (.pick (.tmp 30) (.tmp 32) (.const (.bool .false)), .some 33)), (none, (.mov (.tmp 33), .some 34)), (.some (34, .true), (.mov (.tmp 5), .some 35)), (.some (34, .true), (.bin .eql (.tmp 35) (.const (.int .u64 0)), .some 36)), (none, (.pick (.tmp 34) (.tmp 36) (.const (.bool .false)), .some 37)), (none, (.mov (.tmp 37), .some 38)), (.some (38, .true), (.call (.func 66) [], .some 39)), (none, (.pick (.tmp 38) (.tmp 39) (.const (.bool .false)), .some 40)), (none, (.mov (.tmp 40), .some 2))] []) .ret) .skip)) (.seq
  (.reg [(none, (.mov (.const (.int .i64 0)), .some 6))] []) (.seq (.seq
  (.reg [(none, (.mov (.const (.int .i64 0)), .some 7))] []) (.block 0 (.loop (.seq (.seq
  (.reg [(none, (.mov (.tmp 7), .some 41)), (none, (.mov (.tmp 0), .some 42)), (none, (.len .false (.tmp 42), .some 43)), (none, (.bin .lss (.tmp 41) (.tmp 43), .some 44))] []) (.cond (.tmp 44) .skip (.exit 0))) (.seq (.block 1
  (.reg [(none, (.mov (.tmp 6), .some 47)), (none, (.mov (.tmp 0), .some 48)), (none, (.mov (.tmp 7), .some 49)), (none, (.iadr 3 (.tmp 48) (.tmp 49), .some 50)), (none, (.fadr 1 (.tmp 50), .some 51)), (none, (.load none (.tmp 51), .some 52)), (none, (.bin .add (.tmp 47) (.tmp 52), .some 53)), (none, (.mov (.tmp 53), .some 6))] []))
  (.reg [(none, (.mov (.tmp 7), .some 45)), (none, (.bin .add (.tmp 45) (.const (.int .i64 1)), .some 46)), (none, (.mov (.tmp 46), .some 7))] [])))))) (.seq
  (.reg [(none, (.mov (.tmp 0), .some 54)), (none, (.mov (.tmp 0), .some 55)), (none, (.len .false (.tmp 55), .some 56)), (none, (.bin .sub (.tmp 56) (.const (.int .i64 1)), .some 57)), (none, (.iadr 3 (.tmp 54) (.tmp 57), .some 58)), (none, (.load (.some 3) (.tmp 58), .some 59)), (none, (.new [.int .u64 0, .int .i64 0, .int .i64 0], .some 8)), (none, (.store 3 (.tmp 8) (.tmp 59), none))] []) (.seq
  (.reg [(none, (.mov (.tmp 3), .some 60)), (none, (.mov (.tmp 6), .some 61)), (none, (.bin .eql (.tmp 60) (.tmp 61), .some 62)), (none, (.mov (.tmp 62), .some 63)), (.some (63, .true), (.mov (.tmp 4), .some 64)), (.some (63, .true), (.mov (.tmp 0), .some 65)), (.some (63, .true), (.iadr 3 (.tmp 65) (.const (.int .i64 0)), .some 66)), (.some (63, .true), (.fadr 0 (.tmp 66), .some 67)), (.some (63, .true), (.load none (.tmp 67), .some 68)), (.some (63, .true), (.bin .eql (.tmp 64) (.tmp 68), .some 69)), (none, (.pick (.tmp 63) (.tmp 69) (.const (.bool .false)), .some 70)), (none, (.mov (.tmp 70), .some 71)), (.some (71, .true), (.mov (.tmp 5), .some 72)), (.some (71, .true), (.fadr 0 (.tmp 8), .some 73)), (.some (71, .true), (.load none (.tmp 73), .some 74)), (.some (71, .true), (.fadr 1 (.tmp 8), .some 75)), (.some (71, .true), (.load none (.tmp 75), .some 76)), (.some (71, .true), (.cvt .u64 (.tmp 76), .some 77)), (.some (71, .true), (.bin .add (.tmp 74) (.tmp 77), .some 78)), (.some (71, .true), (.bin .eql (.tmp 72) (.tmp 78), .some 79)), (none, (.pick (.tmp 71) (.tmp 79) (.const (.bool .false)), .some 80)), (none, (.mov (.tmp 80), .some 81)), (.some (81, .true), (.mov (.tmp 5), .some 82)), (.some (81, .true), (.mov (.tmp 4), .some 83)), (.some (81, .true), (.bin .sub (.tmp 82) (.tmp 83), .some 84)), (.some (81, .true), (.mov (.tmp 3), .some 85)), (.some (81, .true), (.cvt .u64 (.tmp 85), .some 86)), (.some (81, .true), (.bin .geq (.tmp 84) (.tmp 86), .some 87)), (none, (.pick (.tmp 81) (.tmp 87) (.const (.bool .false)), .some 88)), (none, (.mov (.tmp 88), .some 89)), (.some (89, .true), (.call (.func 66) [], .some 90)), (none, (.pick (.tmp 89) (.tmp 90) (.const (.bool .false)), .some 91)), (none, (.mov (.tmp 91), .some 2))] []) .ret))))))))
theorem b11 : Try.f11.body.bind (compC Try.prog) = some c11 := by kernel_rfl
theorem r11 : compR Try.prog Try.f11 = .some [.tmp 2] := by kernel_rfl
theorem n11 : (Try.f11.name == "runtime.NumGoroutine") = false := by kernel_rfl
def c22 : C := .seq
  (.reg [(none, (.mov (.const (.bool .false)), .some 6))] []) (.seq (.seq
  (.reg [(none, (.mov (.tmp 0), .some 13)), (none, (.len .false (.tmp 13), .some 14)), (none, (.bin .gtr (.tmp 14) (.const (.int .i64 200)), .some 15)), (none, (.mov (.tmp 15), .some 16)), (.some (16, .false), (.mov (.tmp 1), .some 17)), (.some (16, .false), (.len .false (.tmp 17), .some 18)), (.some (16, .false), (.bin .gtr (.tmp 18) (.const (.int .i64 300)), .some 19)), (none, (.pick (.tmp 16) (.const (.bool .true)) (.tmp 19), .some 20))] []) (.cond (.tmp 20) (.seq
  (.reg [(none, (.call (.func 57) [], .some 21)), (none, (.mov (.tmp 21), .some 6))] []) .ret) .skip)) (.seq (.seq
  (.reg [(none, (.mov (.tmp 0), .some 22)), (none, (.call (.func 59) [.tmp 22], .some 23))] []) (.cond (.tmp 23) (.seq
  (.reg [(none, (.mov (.tmp 0), .some 24)), (none, (.call (.func 62) [.tmp 24], .some 25)), (none, (.mov (.tmp 1), .some 26)), (none, (.app 1 1 (.tmp 25) (.tmp 26), .some 27)), (none, (.call (.func 73) [.tmp 27], .some 28)), (none, (.mov (.tmp 28), .some 7))] []) (.seq
  (.reg [(none, (.mov (.tmp 7), .some 29)), (none, (.mov (.tmp 0), .some 30)), (none, (.len .false (.tmp 30), .some 31)), (none, (.call (.func 98) [.tmp 29, .tmp 31], .some 32)), (none, (.mov (.tmp 0), .some 33)), (none, (.call (.func 54) [.tmp 32, .tmp 33], .some 34)), (none, (.un .not (.tmp 34), .some 35)), (none, (.mov (.tmp 35), .some 36)), (.some (36, .false), (.mov (.tmp 7), .some 37)), (.some (36, .false), (.call (.func 102) [.tmp 37], .some 38)), (.some (36, .false), (.un .not (.tmp 38), .some 39)), (none, (.pick (.tmp 36) (.const (.bool .true)) (.tmp 39), .some 40)), (none, (.mov (.tmp 40), .some 41)), (.some (41, .false), (.mov (.tmp 7), .some 42)), (.some (41, .false), (.call (.func 79) [.tmp 42], .some 43)), (.some (41, .false), (.mov (.tmp 0), .some 44)), (.some (41, .false), (.call (.func 61) [.tmp 44], .some 45)), (.some (41, .false), (.bin .neq (.tmp 43) (.tmp 45), .some 46)), (none, (.pick (.tmp 41) (.const (.bool .true)) (.tmp 46), .some 47))] []) (.cond (.tmp 47) (.seq
  (.reg [(none, (.mov (.const (.bool .false)), .some 6))] []) .ret) .skip))) .skip)) (.seq
  (.reg [(none, (.mov (.tmp 1), .some 48)), (none, (.call (.func 73) [.tmp 48], .some 49)), (none, (.mov (.tmp 49), .some 8))] []) (.seq
  (.reg [(none, (.mov (.tmp 8), .some 50)), (none, (.mov (.tmp 2), .some 51)), (none, (.cvt .i64 (.tmp 51), .some 52)), (none, (.call (.func 98) [.tmp 50, .tmp 52], .some 53)), (none, (.mov (.tmp 53), .some 9))] []) (.seq (.seq
  (.reg [(none, (.mov (.tmp 8), .some 54)), (none, (.call (.func 102) [.tmp 54], .some 55)), (none, (.un .not (.tmp 55), .some 56))] []) (.cond (.tmp 56) (.seq
  (.reg [(none, (.mov (.tmp 9), .some 57)), (none, (.len .false (.tmp 57), .some 58)), (none, (.bin .eql (.tmp 58) (.const (.int .i64 0)), .some 59)), (none, (.mov (.tmp 59), .some 60)), (.some (60, .true), (.call (.func 57) [], .some 61)), (none, (.pick (.tmp 60) (.tmp 61) (.const (.bool .false)), .some 62)), (none, (.mov (.tmp 62), .some 6))] []) .ret) .skip)) (.seq
  (.reg [(none, (.call (.func 37) [.const (.int .i64 300)], .some 63)), (none, (.mov (.tmp 63), .some 10))] []) (.seq
  (.reg [(none, (.mov (.tmp 10), .some 64)), (none, (.mov (.tmp 9), .some 65)), (none, (.call (.func 58) [.tmp 64, .tmp 65], .some 66))] []) (.seq
  (.reg [(none, (.mov (.tmp 10), .some 68)), (none, (.call (.func 40) [.tmp 68], .some 69)), (none, (.mov (.tmp 69), .some 67)), (none, (.ext (.tmp 67) 0, .some 70)), (none, (.ext (.tmp 67) 1, .some 71)), (none, (.mov (.tmp 70), .some 11)), (none, (.mov (.tmp 71), .some 12))] []) (.seq
  (.reg [(none, (.mov (.tmp 12), .some 72)), (none, (.bin .eql (.tmp 72) (.const (.int .i64 0)), .some 73)), (none, (.mov (.tmp 73), .some 74)), (.some (74, .true), (.mov (.tmp 9), .some 75)), (.some (74, .true), (.len .false (.tmp 75), .some 76)), (.some (74, .true), (.mov (.tmp 2), .some 77)), (.some (74, .true), (.cvt .i64 (.tmp 77), .some 78)), (.some (74, .true), (.bin .eql (.tmp 76) (.tmp 78), .some 79)), (none, (.pick (.tmp 74) (.tmp 79) (.const (.bool .false)), .some 80)), (none, (.mov (.tmp 80), .some 81)), (.some (81, .true), (.mov (.tmp 11), .some 82)), (.some (81, .true), (.mov (.tmp 1), .some 83)), (.some (81, .true), (.mov (.tmp 8), .some 84)), (.some (81, .true), (.call (.func 79) [.tmp 84], .some 85)), (.some (81, .true), (.slice 1 (.tmp 83) none (.some (.tmp 85)) none, .some 86)), (.some (81, .true), (.call (.func 41) [.tmp 82, .tmp 86], .some 87)), (none, (.pick (.tmp 81) (.tmp 87) (.const (.bool .false)), .some 88)), (none, (.mov (.tmp 88), .some 89)), (.some (89, .true), (.call (.func 57) [], .some 90)), (none, (.pick (.tmp 89) (.tmp 90) (.const (.bool .false)), .some 91)), (none, (.mov (.tmp 91), .some 6))] []) .ret)))))))))
theorem b22 : Try.f22.body.bind (compC Try.prog) = some c22 := by kernel_rfl
theorem r22 : compR Try.prog Try.f22 = .some [.tmp 6] := by kernel_rfl
theorem n22 : (Try.f22.name == "runtime.NumGoroutine") = false := by kernel_rfl
def c23 : C := .seq
  (.reg [(none, (.mov (.const (.bool .false)), .some 6))] []) (.seq (.seq
  (.reg [(none, (.mov (.tmp 0), .some 16)), (none, (.len .false (.tmp 16), .some 17)), (none, (.bin .gtr (.tmp 17) (.const (.int .i64 300)), .some 18))] []) (.cond (.tmp 18) (.seq
  (.reg [(none, (.call (.func 43) [], .some 19)), (none, (.mov (.tmp 19), .some 6))] []) .ret) .skip)) (.seq
  (.reg [(none, (.mov (.tmp 0), .some 20)), (none, (.call (.func 73) [.tmp 20], .some 21)), (none, (.mov (.tmp 0), .some 22)), (none, (.call (.func 73) [.tmp 22], .some 23)), (none, (.mov (.tmp 0), .some 24)), (none, (.call (.func 73) [.tmp 24], .some 25)), (none, (.mov (.tmp 21), .some 7)), (none, (.mov (.tmp 23), .some 8)), (none, (.mov (.tmp 25), .some 9))] []) (.seq
  (.reg [(none, (.mov (.tmp 0), .some 27)), (none, (.build [.slice none 0 0, .int .i64 0, .int .i64 0, .int .i64 0] [(0, (1, .tmp 27))], .some 28)), (none, (.mov (.tmp 1), .some 29)), (none, (.call (.func 106) [.tmp 28, .tmp 29], .some 30)), (none, (.mov (.tmp 30), .some 26)), (none, (.ext (.tmp 26) 0, .some 31)), (none, (.ext (.tmp 26) 1, .some 32)), (none, (.new [.slice none 0 0, .int .i64 0, .int .i64 0, .int .i64 0], .some 10)), (none, (.store 4 (.tmp 10) (.tmp 31), none)), (none, (.mov (.tmp 32), .some 11))] []) (.seq
  (.reg [(none, (.mov (.tmp 0), .some 34)), (none, (.build [.slice none 0 0, .int .i64 0, .int .i64 0, .int .i64 0] [(0, (1, .tmp 34))], .some 35)), (none, (.mov (.tmp 1), .some 36)), (none, (.call (.func 107) [.tmp 35, .tmp 36], .some 37)), (none, (.mov (.tmp 37), .some 33)), (none, (.ext (.tmp 33) 0, .some 38)), (none, (.ext (.tmp 33) 1, .some 39)), (none, (.new [.slice none 0 0, .int .i64 0, .int .i64 0, .int .i64 0], .some 12)), (none, (.store 4 (.tmp 12) (.tmp 38), none)), (none, (.mov (.tmp 39), .some 13))] []) (.seq
  (.reg [(none, (.mov (.tmp 0), .some 41)), (none, (.build [.slice none 0 0, .int .i64 0, .int .i64 0, .int .i64 0] [(0, (1, .tmp 41))], .some 42)), (none, (.mov (.tmp 2), .some 43)), (none, (.call (.func 108) [.tmp 42, .tmp 43], .some 44)), (none, (.mov (.tmp 44), .some 40)), (none, (.ext (.tmp 40) 0, .some 45)), (none, (.ext (.tmp 40) 1, .some 46)), (none, (.new [.slice none 0 0, .int .i64 0, .int .i64 0, .int .i64 0], .some 14)), (none, (.store 4 (.tmp 14) (.tmp 45), none)), (none, (.mov (.tmp 46), .some 15))] []) (.seq (.seq
  (.reg [(none, (.mov (.tmp 7), .some 47)), (none, (.mov (.tmp 1), .some 48)), (none, (.call (.func 100) [.tmp 47, .tmp 48], .some 49)), (none, (.mov (.tmp 11), .some 50)), (none, (.call (.func 41) [.tmp 49, .tmp 50], .some 51)), (none, (.un .not (.tmp 51), .some 52)), (none, (.mov (.tmp 52), .some 53)), (.some (53, .false), (.mov (.tmp 8), .some 54)), (.some (53, .false), (.mov (.tmp 1), .some 55)), (.some (53, .false), (.call (.func 101) [.tmp 54, .tmp 55], .some 56)), (.some (53, .false), (.mov (.tmp 13), .some 57)), (.some (53, .false), (.call (.func 54) [.tmp 56, .tmp 57], .some 58)), (.some (53, .false), (.un .not (.tmp 58), .some 59)), (none, (.pick (.tmp 53) (.const (.bool .true)) (.tmp 59), .some 60)), (none, (.mov (.tmp 60), .some 61)), (.some (61, .false), (.mov (.tmp 9), .some 62)), (.some (61, .false), (.mov (.tmp 2), .some 63)), (.some (61, .false), (.call (.func 109) [.tmp 62, .tmp 63], .some 64)), (.some (61, .false), (.mov (.tmp 15), .some 65)), (.some (61, .false), (.bin .neq (.tmp 64) (.tmp 65), .some 66)), (none, (.pick (.tmp 61) (.const (.bool .true)) (.tmp 66), .some 67))] []) (.cond (.tmp 67) (.seq
  (.reg [(none, (.mov (.const (.bool .false)), .some 6))] []) .ret) .skip)) (.seq (.seq
  (.reg [(none, (.mov (.tmp 7), .some 68)), (none, (.call (.func 78) [.tmp 68], .some 69)), (none, (.fadr 2 (.tmp 10), .some 70)), (none, (.load (.some 2) (.tmp 70), .some 71)), (none, (.eqa .true 2 (.tmp 69) (.tmp 71), .some 72)), (none, (.mov (.tmp 72), .some 73)), (.some (73, .false), (.mov (.tmp 8), .some 74)), (.some (73, .false), (.call (.func 78) [.tmp 74], .some 75)), (.some (73, .false), (.fadr 2 (.tmp 12), .some 76)), (.some (73, .false), (.load (.some 2) (.tmp 76), .some 77)), (.some (73, .false), (.eqa .true 2 (.tmp 75) (.tmp 77), .some 78)), (none, (.pick (.tmp 73) (.const (.bool .true)) (.tmp 78), .some 79)), (none, (.mov (.tmp 79), .some 80)), (.some (80, .false), (.mov (.tmp 9), .some 81)), (.some (80, .false), (.call (.func 78) [.tmp 81], .some 82)), (.some (80, .false), (.fadr 2 (.tmp 14), .some 83)), (.some (80, .false), (.load (.some 2) (.tmp 83), .some 84)), (.some (80, .false), (.eqa .true 2 (.tmp 82) (.tmp 84), .some 85)), (none, (.pick (.tmp 80) (.const (.bool .true)) (.tmp 85), .some 86))] [(1, 3), (7, 9), (14, 16)]) (.cond (.tmp 86) (.seq
  (.reg [(none, (.mov (.const (.bool .false)), .some 6))] []) .ret) .skip)) (.seq
  (.reg [(none, (.fadr 2 (.tmp 10), .some 87)), (none, (.fadr 0 (.tmp 87), .some 88)), (none, (.load none (.tmp 88), .some 89)), (none, (.bin .neq (.tmp 89) (.const (.int .i64 0)), .some 90)), (none, (.mov (.tmp 90), .some 91)), (.some (91, .false), (.mov (.tmp 7), .some 92)), (.some (91, .false), (.call (.func 79) [.tmp 92], .some 93)), (.some (91, .false), (.fadr 1 (.tmp 10), .some 94)), (.some (91, .false), (.load none (.tmp 94), .some 95)), (.some (91, .false), (.bin .eql (.tmp 93) (.tmp 95), .some 96)), (none, (.pick (.tmp 91) (.const (.bool .true)) (.tmp 96), .some 97)), (none, (.mov (.tmp 97), .some 98)), (.some (98, .true), (.fadr 2 (.tmp 12), .some 99)), (.some (98, .true), (.fadr 0 (.tmp 99), .some 100)), (.some (98, .true), (.load none (.tmp 100), .some 101)), (.some (98, .true), (.bin .neq (.tmp 101) (.const (.int .i64 0)), .some 102)), (.some (98, .true), (.mov (.tmp 102), .some 103)), (.some (103, .false), (.mov (.tmp 8), .some 104)), (.some (103, .false), (.call (.func 79) [.tmp 104], .some 105)), (.some (103, .false), (.fadr 1 (.tmp 12), .some 106)), (.some (103, .false), (.load none (.tmp 106), .some 107)), (.some (103, .false), (.bin .eql (.tmp 105) (.tmp 107), .some 108)), (.some (98, .true), (.pick (.tmp 103) (.const (.bool .true)) (.tmp 108), .some 109)), (none, (.pick (.tmp 98) (.tmp 109) (.const (.bool .false)), .some 110)), (none, (.mov (.tmp 110), .some 111)), (.some (111, .true), (.fadr 2 (.tmp 14), .some 112)), (.some (111, .true), (.fadr 0 (.tmp 112), .some 113)), (.some (111, .true), (.load none (.tmp 113), .some 114)), (.some (111, .true), (.bin .neq (.tmp 114) (.const (.int .i64 0)), .some 115)), (.some (111, .true), (.mov (.tmp 115), .some 116)), (.some (116, .false), (.mov (.tmp 9), .some 117)), (.some (116, .false), (.call (.func 79) [.tmp 117], .some 118)), (.some (116, .false), (.fadr 1 (.tmp 14), .some 119)), (.some (116, .false), (.load none (.tmp 119), .some 120)), (.some (116, .false), (.bin .eql (.tmp 118) (.tmp 120), .some 121)), (.some (111, .true), (.pick (.tmp 116) (.const (.bool .true)) (.tmp 121), .some 122)), (none, (.pick (.tmp 111) (.tmp 122) (.const (.bool .false)), .some 123)), (none, (.mov (.tmp 123), .some 124)), (.some (124, .true), (.call (.func 43) [], .some 125)), (none, (.pick (.tmp 124) (.tmp 125) (.const (.bool .false)), .some 126)), (none, (.mov (.tmp 126), .some 6))] [(6, 8), (18, 20), (31, 33)]) .ret))))))))
theorem b23 : Try.f23.body.bind (compC Try.prog) = some c23 := by kernel_rfl
theorem r23 : compR Try.prog Try.f23 = .some [.tmp 6] := by kernel_rfl
theorem n23 : (Try.f23.name == "runtime.NumGoroutine") = false := by kernel_rfl
def c27 : C := .seq
  (.reg [(none, (.mov (.const (.bool .false)), .some 6))] []) (.seq (.seq
  (.reg [(none, (.mov (.tmp 0), .some 14)), (none, (.len .false (.tmp 14), .some 15)), (none, (.bin .gtr (.tmp 15) (.const (.int .i64 100)), .some 16)), (none, (.mov (.tmp 16), .some 17)), (.some (17, .false), (.mov (.tmp 1), .some 18)), (.some (17, .false), (.len .false (.tmp 18), .some 19)), (.some (17, .false), (.bin .gtr (.tmp 19) (.const (.int .i64 100)), .some 20)), (none, (.pick (.tmp 17) (.const (.bool .true)) (.tmp 20), .some 21)), (none, (.mov (.tmp 21), .some 22)), (.some (22, .false), (.mov (.tmp 2), .some 23)), (.some (22, .false), (.len .false (.tmp 23), .some 24)), (.some (22, .false), (.bin .gtr (.tmp 24) (.const (.int .i64 300)), .some 25)), (none, (.pick (.tmp 22) (.const (.bool .true)) (.tmp 25), .some 26))] []) (.cond (.tmp 26) (.seq
  (.reg [(none, (.call (.func 66) [], .some 27)), (none, (.mov (.tmp 27), .some 6))] []) .ret) .skip)) (.seq
  (.reg [(none, (.mov (.tmp 0), .some 29)), (none, (.call (.func 118) [.tmp 29], .some 30)), (none, (.mov (.tmp 30), .some 28)), (none, (.ext (.tmp 28) 0, .some 31)), (none, (.ext (.tmp 28) 1, .some 32)), (none, (.mov (.tmp 31), .some 7)), (none, (.mov (.tmp 32), .some 8))] []) (.seq
  (.reg [(none, (.call (.func 37) [.const (.int .i64 2000)], .some 33)), (none, (.mov (.tmp 33), .some 9))] []) (.seq
  (.reg [(none, (.mov (.tmp 9), .some 34)), (none, (.mov (.tmp 0), .some 35)), (none, (.call (.func 119) [.tmp 34, .tmp 35], .some 36))] []) (.seq (.seq
  (.reg [(none, (.mov (.tmp 9), .some 38)), (none, (.call (.func 40) [.tmp 38], .some 39)), (none, (.mov (.tmp 39), .some 37)), (none, (.ext (.tmp 37) 0, .some 40)), (none, (.ext (.tmp 37) 1, .some 41)), (none, (.mov (.tmp 40), .some 10)), (none, (.mov (.tmp 41), .some 11))] []) (.seq
  (.reg [(none, (.mov (.tmp 11), .some 42)), (none, (.mov (.tmp 8), .some 43)), (none, (.bin .neq (.tmp 42) (.tmp 43), .some 44)), (none, (.mov (.tmp 44), .some 45)), (.some (45, .false), (.mov (.tmp 10), .some 46)), (.some (45, .false), (.mov (.tmp 7), .some 47)), (.some (45, .false), (.call (.func 41) [.tmp 46, .tmp 47], .some 48)), (.some (45, .false), (.un .not (.tmp 48), .some 49)), (none, (.pick (.tmp 45) (.const (.bool .true)) (.tmp 49), .some 50))] []) (.cond (.tmp 50) (.seq
  (.reg [(none, (.mov (.const (.bool .false)), .some 6))] []) .ret) .skip))) (.seq (.seq
  (.reg [(none, (.mov (.tmp 0), .some 51)), (none, (.call (.func 120) [.tmp 51], .some 52)), (none, (.mov (.tmp 0), .some 53)), (none, (.call (.func 69) [.tmp 53], .some 54)), (none, (.eqb .true (.tmp 52) (.tmp 54), .some 55)), (none, (.mov (.tmp 55), .some 56)), (.some (56, .false), (.mov (.tmp 0), .some 57)), (.some (56, .false), (.mov (.tmp 1), .some 58)), (.some (56, .false), (.call (.func 121) [.tmp 57, .tmp 58], .some 59)), (.some (56, .false), (.mov (.tmp 0), .some 60)), (.some (56, .false), (.mov (.tmp 1), .some 61)), (.some (56, .false), (.call (.func 116) [.tmp 60, .tmp 61], .some 62)), (.some (56, .false), (.eqb .true (.tmp 59) (.tmp 62), .some 63)), (none, (.pick (.tmp 56) (.const (.bool .true)) (.tmp 63), .some 64))] []) (.cond (.tmp 64) (.seq
  (.reg [(none, (.mov (.const (.bool .false)), .some 6))] []) .ret) .skip)) (.seq (.seq
  (.reg [(none, (.mov (.tmp 0), .some 65)), (none, (.call (.func 69) [.tmp 65], .some 66)), (none, (.un .not (.tmp 66), .some 67))] []) (.cond (.tmp 67) (.seq
  (.reg [(none, (.mov (.tmp 8), .some 68)), (none, (.bin .eql (.tmp 68) (.const (.int .i64 3)), .some 69)), (none, (.mov (.tmp 69), .some 70)), (.some (70, .true), (.mov (.tmp 7), .some 71)), (.some (70, .true), (.len .false (.tmp 71), .some 72)), (.some (70, .true), (.bin .eql (.tmp 72) (.const (.int .i64 0)), .some 73)), (none, (.pick (.tmp 70) (.tmp 73) (.const (.bool .false)), .some 74)), (none, (.mov (.tmp 74), .some 75)), (.some (75, .true), (.call (.func 66) [], .some 76)), (none, (.pick (.tmp 75) (.tmp 76) (.const (.bool .false)), .some 77)), (none, (.mov (.tmp 77), .some 6))] []) .ret) .skip)) (.seq
  (.reg [(none, (.bsl 1 [], .some 78)), (none, (.mov (.tmp 7), .some 79)), (none, (.app 1 1 (.tmp 78) (.tmp 79), .some 80)), (none, (.mov (.tmp 2), .some 81)), (none, (.app 1 1 (.tmp 80) (.tmp 81), .some 82)), (none, (.call (.func 73) [.tmp 82], .some 83)), (none, (.mov (.tmp 83), .some 12))] []) (.seq
  (.reg [(none, (.mov (.tmp 12), .some 84)), (none, (.call (.func 114) [.tmp 84], .some 85)), (none, (.mov (.tmp 85), .some 13))] []) (.seq
  (.reg [(none, (.mov (.tmp 8), .some 86)), (none, (.bin .eql (.tmp 86) (.const (.int .i64 0)), .some 87)), (none, (.mov (.tmp 87), .some 88)), (.some (88, .true), (.mov (.tmp 7), .some 89)), (.some (88, .true), (.mov (.tmp 0), .some 90)), (.some (88, .true), (.call (.func 117) [.tmp 90], .some 91)), (.some (88, .true), (.call (.func 41) [.tmp 89, .tmp 91], .some 92)), (none, (.pick (.tmp 88) (.tmp 92) (.const (.bool .false)), .some 93)), (none, (.mov (.tmp 93), .some 94)), (.some (94, .true), (.mov (.tmp 12), .some 95)), (.some (94, .true), (.call (.func 102) [.tmp 95], .some 96)), (none, (.pick (.tmp 94) (.tmp 96) (.const (.bool .false)), .some 97)), (none, (.mov (.tmp 97), .some 98)), (.some (98, .true), (.mov (.tmp 12), .some 99)), (.some (98, .true), (.call (.func 79) [.tmp 99], .some 100)), (.some (98, .true), (.mov (.tmp 7), .some 101)), (.some (98, .true), (.len .false (.tmp 101), .some 102)), (.some (98, .true), (.bin .eql (.tmp 100) (.tmp 102), .some 103)), (none, (.pick (.tmp 98) (.tmp 103) (.const (.bool .false)), .some 104)), (none, (.mov (.tmp 104), .some 105)), (.some (105, .true), (.mov (.tmp 13), .some 106)), (.some (105, .true), (.mov (.tmp 0), .some 107)), (.some (105, .true), (.call (.func 116) [.tmp 106, .tmp 107], .some 108)), (none, (.pick (.tmp 105) (.tmp 108) (.const (.bool .false)), .some 109)), (none, (.mov (.tmp 109), .some 110)), (.some (110, .true), (.call (.func 66) [], .some 111)), (none, (.pick (.tmp 110) (.tmp 111) (.const (.bool .false)), .some 112)), (none, (.mov (.tmp 112), .some 6))] []) .ret))))))))))
theorem b27 : Try.f27.body.bind (compC Try.prog) = some c27 := by kernel_rfl
theorem r27 : compR Try.prog Try.f27 = .some [.tmp 6] := by kernel_rfl
theorem n27 : (Try.f27.name == "runtime.NumGoroutine") = false := by kernel_rfl
def c29 : C := .seq
  (.reg [(none, (.mov (.const (.int .i64 0)), .some 6))] []) (.seq (.seq
  (.reg [(none, (.mov (.tmp 0), .some 7)), (none, (.call (.func 32) [.tmp 7], .some 8)), (none, (.un .not (.tmp 8), .some 9)), (none, (.mov (.tmp 9), .some 10)), (.some (10, .false), (.mov (.tmp 2), .some 11)), (.some (10, .false), (.call (.func 32) [.tmp 11], .some 12)), (.some (10, .false), (.un .not (.tmp 12), .some 13)), (none, (.pick (.tmp 10) (.const (.bool .true)) (.tmp 13), .some 14))] []) (.cond (.tmp 14) (.seq
  (.reg [(none, (.mov (.const (.int .i64 3)), .some 6))] []) .ret) .skip)) (.seq (.seq
  (.reg [(none, (.mov (.tmp 2), .some 15)), (none, (.mov (.tmp 0), .some 16)), (none, (.bin .eql (.tmp 15) (.tmp 16), .some 17)), (none, (.mov (.tmp 17), .some 18)), (.some (18, .true), (.mov (.tmp 1), .some 19)), (.some (18, .true), (.un .not (.tmp 19), .some 20)), (none, (.pick (.tmp 18) (.tmp 20) (.const (.bool .false)), .some 21))] []) (.cond (.tmp 21) (.seq
  (.reg [(none, (.mov (.const (.int .i64 0)), .some 6))] []) .ret) .skip)) (.seq (.seq
  (.reg [(none, (.mov (.tmp 2), .some 22)), (none, (.mov (.tmp 0), .some 23)), (none, (.bin .gtr (.tmp 22) (.tmp 23), .some 24))] []) (.cond (.tmp 24) (.seq
  (.reg [(none, (.mov (.const (.int .i64 13)), .some 6))] []) .ret) .skip)) (.seq
  (.reg [(none, (.mov (.const (.int .i64 18)), .some 6))] []) .ret))))
theorem b29 : Try.f29.body.bind (compC Try.prog) = some c29 := by kernel_rfl
theorem r29 : compR Try.prog Try.f29 = .some [.tmp 6] := by kernel_rfl
theorem n29 : (Try.f29.name == "runtime.NumGoroutine") = false := by kernel_rfl
def c32 : C := .seq
  (.reg [(none, (.mov (.const (.bool .false)), .some 2))] []) (.seq
  (.reg [(none, (.mov (.tmp 0), .some 3)), (none, (.bin .gtr (.tmp 3) (.const (.int .u64 0)), .some 4)), (none, (.mov (.tmp 4), .some 5)), (.some (5, .true), (.mov (.tmp 0), .some 6)), (.some (5, .true), (.bin .leq (.tmp 6) (.const (.int .u64 4611686018427387903)), .some 7)), (none, (.pick (.tmp 5) (.tmp 7) (.const (.bool .false)), .some 8)), (none, (.mov (.tmp 8), .some 2))] []) .ret)
theorem b32 : Try.f32.body.bind (compC Try.prog) = some c32 := by kernel_rfl
theorem r32 : compR Try.prog Try.f32 = .some [.tmp 2] := by kernel_rfl
theorem n32 : (Try.f32.name == "runtime.NumGoroutine") = false := by kernel_rfl
def c43 : C := .seq
  (.reg [(none, (.mov (.const (.bool .false)), .some 0))] []) (.seq
  (.reg [(none, (.call (.func 37) [.const (.int .i64 9)], .some 4)), (none, (.mov (.tmp 4), .some 1))] []) (.seq
  (.reg [(none, (.mov (.tmp 1), .some 5)), (none, (.bsl 1 [.const (.int .u8 7), .const (.int .u8 8)], .some 6)), (none, (.call (.func 44) [.tmp 5, .tmp 6], .some 7))] []) (.seq
  (.reg [(none, (.mov (.tmp 1), .some 8)), (none, (.bsl 1 [.const (.int .u64 300), .const (.int .u64 1)], .some 9)), (none, (.call (.func 45) [.tmp 8, .tmp 9], .some 10))] []) (.seq
  (.reg [(none, (.mov (.tmp 1), .some 12)), (none, (.call (.func 40) [.tmp 12], .some 13)), (none, (.mov (.tmp 13), .some 11)), (none, (.ext (.tmp 11) 0, .some 14)), (none, (.ext (.tmp 11) 1, .some 15)), (none, (.mov (.tmp 14), .some 2)), (none, (.mov (.tmp 15), .some 3))] []) (.seq
  (.reg [(none, (.mov (.tmp 2), .some 16)), (none, (.bsl 1 [.const (.int .u8 2), .const (.int .u8 7), .const (.int .u8 8), .const (.int .u8 2), .const (.int .u8 172), .const (.int .u8 2), .const (.int .u8 1)], .some 17)), (none, (.call (.func 41) [.tmp 16, .tmp 17], .some 18)), (none, (.mov (.tmp 18), .some 0))] []) .ret)))))
theorem b43 : Try.f43.body.bind (compC Try.prog) = some c43 := by kernel_rfl
theorem r43 : compR Try.prog Try.f43 = .some [.tmp 0] := by kernel_rfl
theorem n43 : (Try.f43.name == "runtime.NumGoroutine") = false := by kernel_rfl
def c45 : C := .seq
  (.reg [(none, (.mov (.tmp 0), .some 6)), (none, (.mov (.tmp 1), .some 7)), (none, (.len .false (.tmp 7), .some 8)), (none, (.cvt .u64 (.tmp 8), .some 9)), (none, (.call (.func 91) [.tmp 6, .tmp 9], .some 10))] []) (.seq
  (.reg [(none, (.mov (.tmp 1), .some 11)), (none, (.len .false (.tmp 11), .some 12)), (none, (.mov (.const (.int .i64 0)), .some 13))] []) (.block 0 (.loop (.seq
  (.reg [(none, (.bin .lss (.tmp 13) (.tmp 12), .some 14))] []) (.seq (.cond (.tmp 14) .skip (.exit 0)) (.seq (.block 1 (.seq
  (.reg [(none, (.iadr 1 (.tmp 11) (.tmp 13), .some 15)), (none, (.load none (.tmp 15), .some 16)), (none, (.mov (.tmp 16), .some 5))] [])
  (.reg [(none, (.mov (.tmp 0), .some 17)), (none, (.mov (.tmp 5), .some 18)), (none, (.call (.func 91) [.tmp 17, .tmp 18], .some 19))] [])))
  (.reg [(none, (.bin .add (.tmp 13) (.const (.int .i64 1)), .some 20)), (none, (.mov (.tmp 20), .some 13))] [])))))))
theorem b45 : Try.f45.body.bind (compC Try.prog) = some c45 := by kernel_rfl
theorem r45 : compR Try.prog Try.f45 = .some [] := by kernel_rfl
theorem n45 : (Try.f45.name == "runtime.NumGoroutine") = false := by kernel_rfl
def c53 : C := .seq
  (.reg [(none, (.mov (.const (.slice none 0 0)), .some 4)), (none, (.mov (.const (.bool .false)), .some 5))] []) (.seq
  (.reg [(none, (.mov (.const (.slice none 0 0)), .some 6))] []) (.seq (.seq
  (.reg [(none, (.mov (.tmp 1), .some 8)), (none, (.len .false (.tmp 8), .some 9)), (none, (.mov (.const (.int .i64 0)), .some 10))] []) (.block 0 (.loop (.seq
  (.reg [(none, (.bin .lss (.tmp 10) (.tmp 9), .some 11))] []) (.seq (.cond (.tmp 11) .skip (.exit 0)) (.seq (.block 1 (.seq
  (.reg [(none, (.mov (.tmp 10), .some 12)), (none, (.mov (.tmp 12), .some 7))] []) (.seq (.seq
  (.reg [(none, (.mov (.tmp 1), .some 13)), (none, (.mov (.tmp 7), .some 14)), (none, (.iadr 1 (.tmp 13) (.tmp 14), .some 15)), (none, (.load none (.tmp 15), .some 16)), (none, (.mov (.tmp 0), .some 17)), (none, (.bin .geq (.tmp 16) (.tmp 17), .some 18))] []) (.cond (.tmp 18) (.seq
  (.reg [(none, (.mov (.const (.slice none 0 0)), .some 4)), (none, (.mov (.const (.bool .false)), .some 5))] []) .ret) .skip)) (.seq
  (.reg [(none, (.mov (.tmp 0), .some 19)), (none, (.mov (.tmp 1), .some 20)), (none, (.mov (.tmp 7), .some 21)), (none, (.iadr 1 (.tmp 20) (.tmp 21), .some 22)), (none, (.load none (.tmp 22), .some 23)), (none, (.bin .add (.tmp 23) (.const (.int .u64 1)), .some 24)), (none, (.bin .sub (.tmp 19) (.tmp 24), .some 25)), (none, (.mov (.tmp 25), .some 0))] [])
  (.reg [(none, (.mov (.tmp 6), .some 26)), (none, (.mov (.tmp 0), .some 27)), (none, (.bsl 1 [.tmp 27], .some 28)), (none, (.app 1 8 (.tmp 26) (.tmp 28), .some 29)), (none, (.mov (.tmp 29), .some 6))] [])))))
  (.reg [(none, (.bin .add (.tmp 10) (.const (.int .i64 1)), .some 30)), (none, (.mov (.tmp 30), .some 10))] []))))))) (.seq
  (.reg [(none, (.mov (.tmp 6), .some 31)), (none, (.mov (.tmp 31), .some 4)), (none, (.mov (.const (.bool .true)), .some 5))] []) .ret)))
theorem b53 : Try.f53.body.bind (compC Try.prog) = some c53 := by kernel_rfl
theorem r53 : compR Try.prog Try.f53 = .some [.tmp 4, .tmp 5] := by kernel_rfl
theorem n53 : (Try.f53.name == "runtime.NumGoroutine") = false := by kernel_rfl
def c54 : C := .seq
  (.reg [(none, (.mov (.const (.bool .false)), .some 4))] []) (.seq (.seq
  (.reg [(none, (.mov (.tmp 0), .some 6)), (none, (.len .false (.tmp 6), .some 7)), (none, (.mov (.tmp 1), .some 8)), (none, (.len .false (.tmp 8), .some 9)), (none, (.bin .neq (.tmp 7) (.tmp 9), .some 10))] []) (.cond (.tmp 10) (.seq
  (.reg [(none, (.mov (.const (.bool .false)), .some 4))] []) .ret) .skip)) (.seq (.seq
  (.reg [(none, (.mov (.const (.int .i64 0)), .some 5))] []) (.block 0 (.loop (.seq (.seq
  (.reg [(none, (.mov (.tmp 5), .some 11)), (none, (.mov (.tmp 0), .some 12)), (none, (.len .false (.tmp 12), .some 13)), (none, (.bin .lss (.tmp 11) (.tmp 13), .some 14))] []) (.cond (.tmp 14) .skip (.exit 0))) (.seq (.block 1 (.seq
  (.reg [(none, (.mov (.tmp 0), .some 17)), (none, (.mov (.tmp 5), .some 18)), (none, (.iadr 1 (.tmp 17) (.tmp 18), .some 19)), (none, (.load none (.tmp 19), .some 20)), (none, (.mov (.tmp 1), .some 21)), (none, (.mov (.tmp 5), .some 22)), (none, (.iadr 1 (.tmp 21) (.tmp 22), .some 23)), (none, (.load none (.tmp 23), .some 24)), (none, (.bin .neq (.tmp 20) (.tmp 24), .some 25))] [(3, 7)]) (.cond (.tmp 25) (.seq
  (.reg [(none, (.mov (.const (.bool .false)), .some 4))] []) .ret) .skip)))
  (.reg [(none, (.mov (.tmp 5), .some 15)), (none, (.bin .add (.tmp 15) (.const (.int .i64 1)), .some 16)), (none, (.mov (.tmp 16), .some 5))] [])))))) (.seq
  (.reg [(none, (.mov (.const (.bool .true)), .some 4))] []) .ret)))
theorem b54 : Try.f54.body.bind (compC Try.prog) = some c54 := by kernel_rfl
theorem r54 : compR Try.prog Try.f54 = .some [.tmp 4] := by kernel_rfl
theorem n54 : (Try.f54.name == "runtime.NumGoroutine") = false := by kernel_rfl
def c57 : C := .seq
  (.reg [(none, (.mov (.const (.bool .false)), .some 0))] []) (.seq
  (.reg [(none, (.call (.func 37) [.const (.int .i64 9)], .some 4)), (none, (.mov (.tmp 4), .some 1))] []) (.seq
  (.reg [(none, (.mov (.tmp 1), .some 5)), (none, (.bsl 1 [.const (.int .u64 5), .const (.int .u64 6), .const (.int .u64 300)], .some 6)), (none, (.call (.func 58) [.tmp 5, .tmp 6], .some 7))] []) (.seq
  (.reg [(none, (.mov (.tmp 1), .some 9)), (none, (.call (.func 40) [.tmp 9], .some 10)), (none, (.mov (.tmp 10), .some 8)), (none, (.ext (.tmp 8) 0, .some 11)), (none, (.ext (.tmp 8) 1, .some 12)), (none, (.mov (.tmp 11), .some 2)), (none, (.mov (.tmp 12), .some 3))] []) (.seq
  (.reg [(none, (.call (.func 92) [.const (.int .i64 (-2))], .some 13)), (none, (.bin .eql (.tmp 13) (.const (.int .u64 3)), .some 14)), (none, (.mov (.tmp 14), .some 15)), (.some (15, .true), (.mov (.tmp 2), .some 16)), (.some (15, .true), (.bsl 1 [.const (.int .u8 5), .const (.int .u8 0), .const (.int .u8 165), .const (.int .u8 2)], .some 17)), (.some (15, .true), (.call (.func 41) [.tmp 16, .tmp 17], .some 18)), (none, (.pick (.tmp 15) (.tmp 18) (.const (.bool .false)), .some 19)), (none, (.mov (.tmp 19), .some 0))] []) .ret))))
theorem b57 : Try.f57.body.bind (compC Try.prog) = some c57 := by kernel_rfl
theorem r57 : compR Try.prog Try.f57 = .some [.tmp 0] := by kernel_rfl
theorem n57 : (Try.f57.name == "runtime.NumGoroutine") = false := by kernel_rfl
def c58 : C := .seq (.seq
  (.reg [(none, (.mov (.tmp 1), .some 6)), (none, (.call (.func 60) [.tmp 6], .some 7)), (none, (.un .not (.tmp 7), .some 8))] []) (.cond (.tmp 8) (.seq
  (.reg [(none, (.mov (.tmp 0), .some 9)), (none, (.call (.func 124) [.tmp 9, .const (.int .i64 3)], .some 10))] []) .ret) .skip)) (.seq
  (.reg [(none, (.mov (.tmp 1), .some 11)), (none, (.call (.func 125) [.tmp 11], .some 12)), (none, (.len .false (.tmp 12), .some 13)), (none, (.mov (.const (.int .i64 0)), .some 14))] []) (.block 0 (.loop (.seq
  (.reg [(none, (.bin .lss (.tmp 14) (.tmp 13), .some 15))] []) (.seq (.cond (.tmp 15) .skip (.exit 0)) (.seq (.block 1 (.seq
  (.reg [(none, (.iadr 1 (.tmp 12) (.tmp 14), .some 16)), (none, (.load none (.tmp 16), .some 17)), (none, (.mov (.tmp 17), .some 5))] [])
  (.reg [(none, (.mov (.tmp 0), .some 18)), (none, (.mov (.tmp 5), .some 19)), (none, (.call (.func 91) [.tmp 18, .tmp 19], .some 20))] [])))
  (.reg [(none, (.bin .add (.tmp 14) (.const (.int .i64 1)), .some 21)), (none, (.mov (.tmp 21), .some 14))] [])))))))
theorem b58 : Try.f58.body.bind (compC Try.prog) = some c58 := by kernel_rfl
theorem r58 : compR Try.prog Try.f58 = .some [] := by kernel_rfl
theorem n58 : (Try.f58.name == "runtime.NumGoroutine") = false := by kernel_rfl
def c67 : C := .seq
  (.reg [(none, (.mov (.const (.int .i64 0)), .some 2))] []) (.seq
  (.reg [(none, (.mov (.const (.int .i64 0)), .some 3))] []) (.seq (.seq
  (.reg [(none, (.mov (.tmp 0), .some 6)), (none, (.call (.func 120) [.tmp 6], .some 7)), (none, (.un .not (.tmp 7), .some 8))] []) (.cond (.tmp 8) (.seq
  (.reg [(none, (.mov (.const (.int .i64 0)), .some 2))] []) .ret) .skip)) (.seq (.seq
  (.reg [(none, (.mov (.tmp 0), .some 9)), (none, (.len .false (.tmp 9), .some 10)), (none, (.mov (.const (.int .i64 0)), .some 11))] []) (.block 0 (.loop (.seq
  (.reg [(none, (.bin .lss (.tmp 11) (.tmp 10), .some 12))] []) (.seq (.cond (.tmp 12) .skip (.exit 0)) (.seq (.block 1 (.seq
  (.reg [(none, (.iadr 3 (.tmp 9) (.tmp 11), .some 13)), (none, (.load (.some 3) (.tmp 13), .some 14)), (none, (.new [.int .u64 0, .int .i64 0, .int .i64 0], .some 5)), (none, (.store 3 (.tmp 5) (.tmp 14), none))] [])
  (.reg [(none, (.mov (.tmp 3), .some 15)), (none, (.fadr 1 (.tmp 5), .some 16)), (none, (.load none (.tmp 16), .some 17)), (none, (.bin .add (.tmp 15) (.tmp 17), .some 18)), (none, (.mov (.tmp 18), .some 3))] [])))
  (.reg [(none, (.bin .add (.tmp 11) (.const (.int .i64 1)), .some 19)), (none, (.mov (.tmp 19), .some 11))] []))))))) (.seq
  (.reg [(none, (.mov (.tmp 3), .some 20)), (none, (.mov (.tmp 20), .some 2))] []) .ret))))
theorem b67 : Try.f67.body.bind (compC Try.prog) = some c67 := by kernel_rfl
theorem r67 : compR Try.prog Try.f67 = .some [.tmp 2] := by kernel_rfl
theorem n67 : (Try.f67.name == "runtime.NumGoroutine") = false := by kernel_rfl
def c71 : C := .seq
  (.reg [(none, (.mov (.const (.int .i64 0)), .some 4))] []) (.seq (.seq
  (.reg [(none, (.mov (.const (.int .i64 0)), .some 5))] []) (.block 0 (.loop (.seq (.seq
  (.reg [(none, (.mov (.tmp 5), .some 6)), (none, (.mov (.tmp 0), .some 7)), (none, (.len .false (.tmp 7), .some 8)), (none, (.bin .lss (.tmp 6) (.tmp 8), .some 9))] []) (.cond (.tmp 9) .skip (.exit 0))) (.seq (.block 1 (.seq
  (.reg [(none, (.mov (.tmp 1), .some 12)), (none, (.mov (.tmp 0), .some 13)), (none, (.mov (.tmp 5), .some 14)), (none, (.iadr 3 (.tmp 13) (.tmp 14), .some 15)), (none, (.fadr 0 (.tmp 15), .some 16)), (none, (.load none (.tmp 16), .some 17)), (none, (.bin .geq (.tmp 12) (.tmp 17), .some 18)), (none, (.mov (.tmp 18), .some 19)), (.some (19, .true), (.mov (.tmp 1), .some 20)), (.some (19, .true), (.mov (.tmp 0), .some 21)), (.some (19, .true), (.mov (.tmp 5), .some 22)), (.some (19, .true), (.iadr 3 (.tmp 21) (.tmp 22), .some 23)), (.some (19, .true), (.fadr 0 (.tmp 23), .some 24)), (.some (19, .true), (.load none (.tmp 24), .some 25)), (.some (19, .true), (.mov (.tmp 0), .some 26)), (.some (19, .true), (.mov (.tmp 5), .some 27)), (.some (19, .true), (.iadr 3 (.tmp 26) (.tmp 27), .some 28)), (.some (19, .true), (.fadr 1 (.tmp 28), .some 29)), (.some (19, .true), (.load none (.tmp 29), .some 30)), (.some (19, .true), (.cvt .u64 (.tmp 30), .some 31)), (.some (19, .true), (.bin .add (.tmp 25) (.tmp 31), .some 32)), (.some (19, .true), (.bin .lss (.tmp 20) (.tmp 32), .some 33)), (none, (.pick (.tmp 19) (.tmp 33) (.const (.bool .false)), .some 34))] [(13, 18)]) (.cond (.tmp 34) (.seq
  (.reg [(none, (.mov (.tmp 5), .some 35)), (none, (.mov (.tmp 35), .some 4))] []) .ret) .skip)))
  (.reg [(none, (.mov (.tmp 5), .some 10)), (none, (.bin .add (.tmp 10) (.const (.int .i64 1)), .some 11)), (none, (.mov (.tmp 11), .some 5))] [])))))) (.seq
  (.reg [(none, (.mov (.const (.int .i64 (-1))), .some 4))] []) .ret))
theorem b71 : Try.f71.body.bind (compC Try.prog) = some c71 := by kernel_rfl
theorem r71 : compR Try.prog Try.f71 = .some [.tmp 4] := by kernel_rfl
theorem n71 : (Try.f71.name == "runtime.NumGoroutine") = false := by kernel_rfl
def c73 : C := .seq
  (.reg [(none, (.mov (.const (.pointer none)), .some 2))] []) (.seq
  (.reg [(none, (.mov (.tmp 0), .some 3)), (none, (.mov (.tmp 0), .some 4)), (none, (.len .false (.tmp 4), .some 5)), (none, (.mov (.tmp 0), .some 6)), (none, (.len .false (.tmp 6), .some 7)), (none, (.slice 1 (.tmp 3) none (.some (.tmp 5)) (.some (.tmp 7)), .some 8)), (none, (.build [.slice none 0 0, .int .i64 0, .int .i64 0, .int .i64 0] [(0, (1, .tmp 8))], .some 9)), (none, (.box (.tmp 9), .some 10)), (none, (.mov (.tmp 10), .some 2))] []) .ret)
theorem b73 : Try.f73.body.bind (compC Try.prog) = some c73 := by kernel_rfl
theorem r73 : compR Try.prog Try.f73 = .some [.tmp 2] := by kernel_rfl
theorem n73 : (Try.f73.name == "runtime.NumGoroutine") = false := by kernel_rfl
def c74 : C := .seq
  (.reg [(none, (.mov (.const (.int .u64 0)), .some 2))] []) (.seq
  (.reg [(none, (.mov (.tmp 0), .some 3)), (none, (.call (.func 127) [.tmp 3, .func 34], .some 4)), (none, (.mov (.tmp 4), .some 2))] []) .ret)
theorem b74 : Try.f74.body.bind (compC Try.prog) = some c74 := by kernel_rfl
theorem r74 : compR Try.prog Try.f74 = .some [.tmp 2] := by kernel_rfl
theorem n74 : (Try.f74.name == "runtime.NumGoroutine") = false := by kernel_rfl
def c77 : C := .seq
  (.reg [(none, (.box (.tmp 0), .some 2)), (none, (.new [.slice none 0 0, .int .i64 0, .int .i64 0, .int .i64 0], .some 4)), (none, (.mov (.const (.int .u64 0)), .some 5))] []) (.seq
  (.reg [(none, (.load (.some 4) (.tmp 2), .some 9)), (none, (.call (.func 82) [.tmp 9], .some 10)), (none, (.mov (.tmp 10), .some 8)), (none, (.ext (.tmp 8) 0, .some 11)), (none, (.ext (.tmp 8) 1, .some 12)), (none, (.new [.slice none 0 0, .int .i64 0, .int .i64 0, .int .i64 0], .some 6)), (none, (.store 4 (.tmp 6) (.tmp 11), none)), (none, (.mov (.tmp 12), .some 7))] []) (.seq (.seq
  (.reg [(none, (.fadr 2 (.tmp 6), .some 13)), (none, (.fadr 0 (.tmp 13), .some 14)), (none, (.load none (.tmp 14), .some 15)), (none, (.bin .neq (.tmp 15) (.const (.int .i64 0)), .some 16))] []) (.cond (.tmp 16) (.seq
  (.reg [(none, (.load (.some 4) (.tmp 6), .some 17)), (none, (.store 4 (.tmp 4) (.tmp 17), none)), (none, (.mov (.const (.int .u64 0)), .some 5))] []) .ret) .skip)) (.seq (.seq
  (.reg [(none, (.mov (.tmp 1), .some 18)), (none, (.bin .eql (.tmp 18) (.const (.int .i64 1)), .some 19)), (none, (.mov (.tmp 19), .some 20)), (.some (20, .true), (.mov (.tmp 7), .some 21)), (.some (20, .true), (.call (.func 32) [.tmp 21], .some 22)), (.some (20, .true), (.un .not (.tmp 22), .some 23)), (none, (.pick (.tmp 20) (.tmp 23) (.const (.bool .false)), .some 24)), (none, (.mov (.tmp 24), .some 25)), (.some (25, .false), (.mov (.tmp 1), .some 26)), (.some (25, .false), (.bin .eql (.tmp 26) (.const (.int .i64 2)), .some 27)), (.some (25, .false), (.mov (.tmp 27), .some 28)), (.some (28, .true), (.mov (.tmp 7), .some 29)), (.some (28, .true), (.call (.func 36) [.tmp 29], .some 30)), (.some (28, .true), (.un .not (.tmp 30), .some 31)), (.some (25, .false), (.pick (.tmp 28) (.tmp 31) (.const (.bool .false)), .some 32)), (none, (.pick (.tmp 25) (.const (.bool .true)) (.tmp 32), .some 33)), (none, (.mov (.tmp 33), .some 34)), (.some (34, .false), (.mov (.tmp 1), .some 35)), (.some (34, .false), (.bin .eql (.tmp 35) (.const (.int .i64 3)), .some 36)), (.some (34, .false), (.mov (.tmp 36), .some 37)), (.some (37, .true), (.mov (.tmp 7), .some 38)), (.some (37, .true), (.bin .gtr (.tmp 38) (.const (.int .u64 4611686018427387904)), .some 39)), (.some (34, .false), (.pick (.tmp 37) (.tmp 39) (.const (.bool .false)), .some 40)), (none, (.pick (.tmp 34) (.const (.bool .true)) (.tmp 40), .some 41))] []) (.cond (.tmp 41) (.seq
  (.reg [(none, (.load (.some 4) (.tmp 6), .some 42)), (none, (.fadr 1 (.tmp 2), .some 43)), (none, (.load none (.tmp 43), .some 44)), (none, (.call (.func 129) [.tmp 42, .const (.int .i64 3), .tmp 44], .some 45)), (none, (.store 4 (.tmp 4) (.tmp 45), none)), (none, (.mov (.const (.int .u64 0)), .some 5))] []) .ret) .skip)) (.seq
  (.reg [(none, (.load (.some 4) (.tmp 6), .some 46)), (none, (.mov (.tmp 7), .some 47)), (none, (.store 4 (.tmp 4) (.tmp 46), none)), (none, (.mov (.tmp 47), .some 5))] []) .ret))))
theorem b77 : Try.f77.body.bind (compC Try.prog) = some c77 := by kernel_rfl
theorem r77 : compR Try.prog Try.f77 = .some [.cell 4 (.some 4), .tmp 5] := by kernel_rfl
theorem n77 : (Try.f77.name == "runtime.NumGoroutine") = false := by kernel_rfl
def c79 : C := .seq
  (.reg [(none, (.mov (.const (.int .i64 0)), .some 2))] []) (.seq (.seq
  (.reg [(none, (.mov (.tmp 0), .some 3)), (none, (.eqp .false (.tmp 3) (.const (.pointer none)), .some 4))] []) (.cond (.tmp 4) (.seq
  (.reg [(none, (.mov (.const (.int .i64 0)), .some 2))] []) .ret) .skip)) (.seq
  (.reg [(none, (.mov (.tmp 0), .some 5)), (none, (.nilc (.tmp 5), .some 6)), (none, (.fadr 1 (.tmp 6), .some 7)), (none, (.load none (.tmp 7), .some 8)), (none, (.mov (.tmp 8), .some 2))] []) .ret))
theorem b79 : Try.f79.body.bind (compC Try.prog) = some c79 := by kernel_rfl
theorem r79 : compR Try.prog Try.f79 = .some [.tmp 2] := by kernel_rfl
theorem n79 : (Try.f79.name == "runtime.NumGoroutine") = false := by kernel_rfl
def c80 : C := .seq
  (.reg [(none, (.mov (.const (.int .u64 0)), .some 2)), (none, (.mov (.const (.int .i64 0)), .some 3)), (none, (.new [.int .i64 0, .int .i64 0], .some 4))] []) (.seq (.seq
  (.reg [(none, (.mov (.const (.int .i64 0)), .some 5))] []) (.block 0 (.loop (.seq (.seq
  (.reg [(none, (.mov (.tmp 5), .some 8)), (none, (.mov (.tmp 0), .some 9)), (none, (.len .false (.tmp 9), .some 10)), (none, (.bin .lss (.tmp 8) (.tmp 10), .some 11))] []) (.cond (.tmp 11) .skip (.exit 0))) (.seq (.block 1 (.seq (.seq
  (.reg [(none, (.mov (.tmp 5), .some 14)), (none, (.bin .eql (.tmp 14) (.const (.int .i64 9)), .some 15)), (none, (.mov (.tmp 15), .some 16)), (.some (16, .true), (.mov (.tmp 0), .some 17)), (.some (16, .true), (.mov (.tmp 5), .some 18)), (.some (16, .true), (.iadr 1 (.tmp 17) (.tmp 18), .some 19)), (.some (16, .true), (.load none (.tmp 19), .some 20)), (.some (16, .true), (.bin .gtr (.tmp 20) (.const (.int .u8 1)), .some 21)), (none, (.pick (.tmp 16) (.tmp 21) (.const (.bool .false)), .some 22))] []) (.cond (.tmp 22) (.seq
  (.reg [(none, (.mov (.tmp 5), .some 23)), (none, (.call (.func 131) [.const (.int .i64 5), .tmp 23], .some 24)), (none, (.mov (.const (.int .u64 0)), .some 2)), (none, (.mov (.const (.int .i64 0)), .some 3)), (none, (.store 2 (.tmp 4) (.tmp 24), none))] []) .ret) .skip)) (.seq (.seq
  (.reg [(none, (.mov (.tmp 5), .some 25)), (none, (.bin .gtr (.tmp 25) (.const (.int .i64 0)), .some 26)), (none, (.mov (.tmp 26), .some 27)), (.some (27, .true), (.mov (.tmp 0), .some 28)), (.some (27, .true), (.mov (.tmp 5), .some 29)), (.some (27, .true), (.iadr 1 (.tmp 28) (.tmp 29), .some 30)), (.some (27, .true), (.load none (.tmp 30), .some 31)), (.some (27, .true), (.bin .eql (.tmp 31) (.const (.int .u8 0)), .some 32)), (none, (.pick (.tmp 27) (.tmp 32) (.const (.bool .false)), .some 33))] []) (.cond (.tmp 33) (.seq
  (.reg [(none, (.mov (.tmp 5), .some 34)), (none, (.call (.func 131) [.const (.int .i64 4), .tmp 34], .some 35)), (none, (.mov (.const (.int .u64 0)), .some 2)), (none, (.mov (.const (.int .i64 0)), .some 3)), (none, (.store 2 (.tmp 4) (.tmp 35), none))] []) .ret) .skip)) (.seq
  (.reg [(none, (.mov (.tmp 0), .some 36)), (none, (.mov (.tmp 5), .some 37)), (none, (.iadr 1 (.tmp 36) (.tmp 37), .some 38)), (none, (.load none (.tmp 38), .some 39)), (none, (.bin .lss (.tmp 39) (.const (.int .u8 128)), .some 40))] []) (.cond (.tmp 40) (.seq
  (.reg [(none, (.mov (.const (.int .u64 0)), .some 6))] []) (.seq (.seq
  (.reg [(none, (.mov (.tmp 5), .some 41)), (none, (.mov (.tmp 41), .some 7))] []) (.block 2 (.loop (.seq (.seq
  (.reg [(none, (.mov (.tmp 7), .some 42)), (none, (.bin .geq (.tmp 42) (.const (.int .i64 0)), .some 43))] []) (.cond (.tmp 43) .skip (.exit 2))) (.seq (.block 3
  (.reg [(none, (.mov (.tmp 6), .some 46)), (none, (.bin .mul (.const (.int .u64 128)) (.tmp 46), .some 47)), (none, (.mov (.tmp 0), .some 48)), (none, (.mov (.tmp 7), .some 49)), (none, (.iadr 1 (.tmp 48) (.tmp 49), .some 50)), (none, (.load none (.tmp 50), .some 51)), (none, (.bin .rem (.tmp 51) (.const (.int .u8 128)), .some 52)), (none, (.cvt .u64 (.tmp 52), .some 53)), (none, (.bin .add (.tmp 47) (.tmp 53), .some 54)), (none, (.mov (.tmp 54), .some 6))] []))
  (.reg [(none, (.mov (.tmp 7), .some 44)), (none, (.bin .sub (.tmp 44) (.const (.int .i64 1)), .some 45)), (none, (.mov (.tmp 45), .some 7))] [])))))) (.seq
  (.reg [(none, (.mov (.tmp 6), .some 55)), (none, (.mov (.tmp 5), .some 56)), (none, (.bin .add (.tmp 56) (.const (.int .i64 1)), .some 57)), (none, (.build [.int .i64 0, .int .i64 0] [], .some 58)), (none, (.mov (.tmp 55), .some 2)), (none, (.mov (.tmp 57), .some 3)), (none, (.store 2 (.tmp 4) (.tmp 58), none))] []) .ret))) .skip)))))
  (.reg [(none, (.mov (.tmp 5), .some 12)), (none, (.bin .add (.tmp 12) (.const (.int .i64 1)), .some 13)), (none, (.mov (.tmp 13), .some 5))] [])))))) (.seq
  (.reg [(none, (.mov (.tmp 0), .some 59)), (none, (.len .false (.tmp 59), .some 60)), (none, (.call (.func 131) [.const (.int .i64 1), .tmp 60], .some 61)), (none, (.mov (.const (.int .u64 0)), .some 2)), (none, (.mov (.const (.int .i64 0)), .some 3)), (none, (.store 2 (.tmp 4) (.tmp 61), none))] []) .ret))
theorem b80 : Try.f80.body.bind (compC Try.prog) = some c80 := by kernel_rfl
theorem r80 : compR Try.prog Try.f80 = .some [.tmp 2, .tmp 3, .cell 4 (.some 2)] := by kernel_rfl
theorem n80 : (Try.f80.name == "runtime.NumGoroutine") = false := by kernel_rfl
def c82 : C := .seq
  (.reg [(none, (.box (.tmp 0), .some 1)), (none, (.new [.slice none 0 0, .int .i64 0, .int .i64 0, .int .i64 0], .some 2)), (none, (.mov (.const (.int .u64 0)), .some 3))] []) (.seq (.seq
  (.reg [(none, (.fadr 2 (.tmp 1), .some 7)), (none, (.fadr 0 (.tmp 7), .some 8)), (none, (.load none (.tmp 8), .some 9)), (none, (.bin .neq (.tmp 9) (.const (.int .i64 0)), .some 10))] []) (.cond (.tmp 10) (.seq
  (.reg [(none, (.load (.some 4) (.tmp 1), .some 11)), (none, (.store 4 (.tmp 2) (.tmp 11), none)), (none, (.mov (.const (.int .u64 0)), .some 3))] []) .ret) .skip)) (.seq
  (.reg [(none, (.fadr 0 (.tmp 1), .some 13)), (none, (.load none (.tmp 13), .some 14)), (none, (.fadr 1 (.tmp 1), .some 15)), (none, (.load none (.tmp 15), .some 16)), (none, (.slice 1 (.tmp 14) (.some (.tmp 16)) none none, .some 17)), (none, (.call (.func 80) [.tmp 17], .some 18)), (none, (.mov (.tmp 18), .some 12)), (none, (.ext (.tmp 12) 0, .some 19)), (none, (.ext (.tmp 12) 1, .some 20)), (none, (.ext (.tmp 12) 2, .some 21)), (none, (.new [.int .i64 0, .int .i64 0], .some 6)), (none, (.mov (.tmp 19), .some 4)), (none, (.mov (.tmp 20), .some 5)), (none, (.store 2 (.tmp 6) (.tmp 21), none))] []) (.seq (.seq
  (.reg [(none, (.fadr 0 (.tmp 6), .some 22)), (none, (.load none (.tmp 22), .some 23)), (none, (.bin .eql (.tmp 23) (.const (.int .i64 0)), .some 24))] []) (.cond (.tmp 24) (.seq
  (.reg [(none, (.fadr 1 (.tmp 1), .some 25)), (none, (.load none (.tmp 25), .some 26)), (none, (.mov (.tmp 5), .some 27)), (none, (.bin .add (.tmp 26) (.tmp 27), .some 28)), (none, (.fadr 1 (.tmp 1), .some 29)), (none, (.store 1 (.tmp 29) (.tmp 28), none))] []) (.seq
  (.reg [(none, (.load (.some 4) (.tmp 1), .some 30)), (none, (.mov (.tmp 4), .some 31)), (none, (.store 4 (.tmp 2) (.tmp 30), none)), (none, (.mov (.tmp 31), .some 3))] []) .ret)) .skip)) (.seq (.seq
  (.reg [(none, (.fadr 0 (.tmp 6), .some 32)), (none, (.load none (.tmp 32), .some 33)), (none, (.bin .eql (.tmp 33) (.const (.int .i64 1)), .some 34))] []) (.cond (.tmp 34)
  (.reg [(none, (.fadr 0 (.tmp 1), .some 35)), (none, (.load none (.tmp 35), .some 36)), (none, (.len .false (.tmp 36), .some 37)), (none, (.fadr 1 (.tmp 1), .some 38)), (none, (.store 1 (.tmp 38) (.tmp 37), none))] [])
  (.reg [(none, (.fadr 1 (.tmp 1), .some 39)), (none, (.load none (.tmp 39), .some 40)), (none, (.fadr 1 (.tmp 6), .some 41)), (none, (.load none (.tmp 41), .some 42)), (none, (.bin .add (.tmp 40) (.tmp 42), .some 43)), (none, (.bin .add (.tmp 43) (.const (.int .i64 1)), .some 44)), (none, (.fadr 1 (.tmp 1), .some 45)), (none, (.store 1 (.tmp 45) (.tmp 44), none))] []))) (.seq
  (.reg [(none, (.fadr 0 (.tmp 6), .some 46)), (none, (.load none (.tmp 46), .some 47)), (none, (.fadr 1 (.tmp 1), .some 48)), (none, (.load none (.tmp 48), .some 49)), (none, (.call (.func 131) [.tmp 47, .tmp 49], .some 50)), (none, (.fadr 2 (.tmp 1), .some 51)), (none, (.store 2 (.tmp 51) (.tmp 50), none))] []) (.seq (.seq
  (.reg [(none, (.fadr 0 (.tmp 6), .some 52)), (none, (.load none (.tmp 52), .some 53)), (none, (.bin .neq (.tmp 53) (.const (.int .i64 1)), .some 54))] []) (.cond (.tmp 54)
  (.reg [(none, (.fadr 1 (.tmp 1), .some 55)), (none, (.load none (.tmp 55), .some 56)), (none, (.bin .sub (.tmp 56) (.const (.int .i64 1)), .some 57)), (none, (.fadr 2 (.tmp 1), .some 58)), (none, (.fadr 1 (.tmp 58), .some 59)), (none, (.store 1 (.tmp 59) (.tmp 57), none))] []) .skip)) (.seq
  (.reg [(none, (.load (.some 4) (.tmp 1), .some 60)), (none, (.store 4 (.tmp 2) (.tmp 60), none)), (none, (.mov (.const (.int .u64 0)), .some 3))] []) .ret)))))))
theorem b82 : Try.f82.body.bind (compC Try.prog) = some c82 := by kernel_rfl
theorem r82 : compR Try.prog Try.f82 = .some [.cell 2 (.some 4), .tmp 3] := by kernel_rfl
theorem n82 : (Try.f82.name == "runtime.NumGoroutine") = false := by kernel_rfl
def c85 : C := .seq
  (.reg [(none, (.mov (.const (.int .u64 0)), .some 2))] []) (.scope (.seq
  (.reg [(none, (.mov (.const (.int .u64 0)), .some 3))] []) (.seq
  (.reg [(none, (.mov (.const (.int .u8 0)), .some 4))] []) (.seq
  (.reg [(none, (.mov (.tmp 0), .some 7)), (none, (.call (.func 79) [.tmp 7], .some 8)), (none, (.mov (.const (.int .i64 0)), .some 5)), (none, (.mov (.tmp 8), .some 6))] []) (.seq (.label 0) (.seq
  (.reg [(none, (.mov (.tmp 0), .some 9)), (none, (.call (.func 133) [.tmp 9], .some 10)), (none, (.mov (.tmp 10), .some 4))] []) (.seq (.block 0 (.seq
  (.reg [(none, (.mov (.tmp 0), .some 12)), (none, (.call (.func 102) [.tmp 12], .some 13)), (none, (.un .not (.tmp 13), .some 14)), (none, (.mov (.tmp 14), .some 11))] []) (.cond (.tmp 11) (.seq
  (.reg [(none, (.mov (.const (.int .u64 0)), .some 2))] []) .ret) (.seq
  (.reg [(none, (.mov (.tmp 5), .some 16)), (none, (.bin .eql (.tmp 16) (.const (.int .i64 63)), .some 17)), (none, (.mov (.tmp 17), .some 18)), (.some (18, .true), (.mov (.tmp 4), .some 19)), (.some (18, .true), (.bin .gtr (.tmp 19) (.const (.int .u8 1)), .some 20)), (none, (.pick (.tmp 18) (.tmp 20) (.const (.bool .false)), .some 21)), (none, (.mov (.tmp 21), .some 15))] []) (.cond (.tmp 15) (.seq
  (.reg [(none, (.mov (.tmp 0), .some 22)), (none, (.mov (.tmp 0), .some 23)), (none, (.call (.func 79) [.tmp 23], .some 24)), (none, (.bin .sub (.tmp 24) (.const (.int .i64 1)), .some 25)), (none, (.call (.func 132) [.tmp 22, .const (.int .i64 5), .tmp 25], .some 26))] []) (.seq
  (.reg [(none, (.mov (.const (.int .u64 0)), .some 2))] []) .ret)) (.seq
  (.reg [(none, (.mov (.tmp 4), .some 28)), (none, (.bin .eql (.tmp 28) (.const (.int .u8 0)), .some 29)), (none, (.mov (.tmp 29), .some 30)), (.some (30, .true), (.mov (.tmp 0), .some 31)), (.some (30, .true), (.call (.func 79) [.tmp 31], .some 32)), (.some (30, .true), (.bin .sub (.tmp 32) (.const (.int .i64 1)), .some 33)), (.some (30, .true), (.mov (.tmp 6), .some 34)), (.some (30, .true), (.bin .gtr (.tmp 33) (.tmp 34), .some 35)), (none, (.pick (.tmp 30) (.tmp 35) (.const (.bool .false)), .some 36)), (none, (.mov (.tmp 36), .some 27))] []) (.cond (.tmp 27) (.seq
  (.reg [(none, (.mov (.tmp 0), .some 37)), (none, (.mov (.tmp 0), .some 38)), (none, (.call (.func 79) [.tmp 38], .some 39)), (none, (.bin .sub (.tmp 39) (.const (.int .i64 1)), .some 40)), (none, (.call (.func 132) [.tmp 37, .const (.int .i64 4), .tmp 40], .some 41))] []) (.seq
  (.reg [(none, (.mov (.const (.int .u64 0)), .some 2))] []) .ret)) .skip))))))) (.seq
  (.reg [(none, (.mov (.tmp 3), .some 42)), (none, (.mov (.tmp 4), .some 43)), (none, (.bin .rem (.tmp 43) (.const (.int .u8 128)), .some 44)), (none, (.cvt .u64 (.tmp 44), .some 45)), (none, (.mov (.tmp 5), .some 46)), (none, (.bin .shl (.tmp 45) (.tmp 46), .some 47)), (none, (.bin .or (.tmp 42) (.tmp 47), .some 48)), (none, (.mov (.tmp 48), .some 3))] []) (.seq
  (.reg [(none, (.mov (.tmp 5), .some 49)), (none, (.bin .add (.tmp 49) (.const (.int .i64 7)), .some 50)), (none, (.mov (.tmp 50), .some 5))] []) (.seq (.seq
  (.reg [(none, (.mov (.tmp 4), .some 51)), (none, (.bin .geq (.tmp 51) (.const (.int .u8 128)), .some 52))] []) (.cond (.tmp 52) (.goto 0) .skip)) (.seq
  (.reg [(none, (.mov (.tmp 3), .some 53)), (none, (.mov (.tmp 53), .some 2))] []) .ret)))))))))))
theorem b85 : Try.f85.body.bind (compC Try.prog) = some c85 := by kernel_rfl
theorem r85 : compR Try.prog Try.f85 = .some [.tmp 2] := by kernel_rfl
theorem n85 : (Try.f85.name == "runtime.NumGoroutine") = false := by kernel_rfl
def c89 : C := .seq
  (.reg [(none, (.box (.tmp 0), .some 2)), (none, (.box (.tmp 1), .some 3)), (none, (.mov (.const (.int .u64 0)), .some 4)), (none, (.mov (.const (.bool .false)), .some 5))] []) (.seq (.seq
  (.reg [(none, (.load none (.tmp 2), .some 7)), (none, (.call (.func 120) [.tmp 7], .some 8)), (none, (.un .not (.tmp 8), .some 9))] []) (.cond (.tmp 9) (.seq
  (.reg [(none, (.mov (.const (.int .u64 0)), .some 4)), (none, (.mov (.const (.bool .false)), .some 5))] []) .ret) .skip)) (.seq
  (.reg [(none, (.load none (.tmp 2), .some 10)), (none, (.len .false (.tmp 10), .some 11)), (none, (.mkf 135 [] [.tmp 3, .tmp 2], .some 12)), (none, (.call (.func 134) [.tmp 11, .tmp 12], .some 13)), (none, (.mov (.tmp 13), .some 6))] []) (.seq (.seq
  (.reg [(none, (.mov (.tmp 6), .some 14)), (none, (.load none (.tmp 2), .some 15)), (none, (.len .false (.tmp 15), .some 16)), (none, (.bin .eql (.tmp 14) (.tmp 16), .some 17))] []) (.cond (.tmp 17) (.seq
  (.reg [(none, (.mov (.const (.int .u64 0)), .some 4)), (none, (.mov (.const (.bool .false)), .some 5))] []) .ret) .skip)) (.seq
  (.reg [(none, (.load none (.tmp 3), .some 18)), (none, (.load none (.tmp 2), .some 19)), (none, (.mov (.tmp 6), .some 20)), (none, (.iadr 3 (.tmp 19) (.tmp 20), .some 21)), (none, (.fadr 0 (.tmp 21), .some 22)), (none, (.load none (.tmp 22), .some 23)), (none, (.mx .true (.tmp 18) (.tmp 23), .some 24)), (none, (.mov (.tmp 24), .some 4)), (none, (.mov (.const (.bool .true)), .some 5))] [(0, 1), (0, 5)]) .ret))))
theorem b89 : Try.f89.body.bind (compC Try.prog) = some c89 := by kernel_rfl
theorem r89 : compR Try.prog Try.f89 = .some [.tmp 4, .tmp 5] := by kernel_rfl
theorem n89 : (Try.f89.name == "runtime.NumGoroutine") = false := by kernel_rfl
def c93 : C := .seq
  (.reg [(none, (.mov (.const (.int .u64 0)), .some 2))] []) (.seq (.seq
  (.reg [(none, (.mov (.tmp 0), .some 3)), (none, (.bin .lss (.tmp 3) (.const (.int .i64 0)), .some 4))] []) (.cond (.tmp 4) (.seq
  (.reg [(none, (.mov (.tmp 0), .some 5)), (none, (.bin .add (.tmp 5) (.const (.int .i64 1)), .some 6)), (none, (.un .neg (.tmp 6), .some 7)), (none, (.cvt .u64 (.tmp 7), .some 8)), (none, (.bin .mul (.const (.int .u64 2)) (.tmp 8), .some 9)), (none, (.bin .add (.tmp 9) (.const (.int .u64 1)), .some 10)), (none, (.mov (.tmp 10), .some 2))] []) .ret) .skip)) (.seq
  (.reg [(none, (.mov (.tmp 0), .some 11)), (none, (.cvt .u64 (.tmp 11), .some 12)), (none, (.bin .mul (.const (.int .u64 2)) (.tmp 12), .some 13)), (none, (.mov (.tmp 13), .some 2))] []) .ret))
theorem b93 : Try.f93.body.bind (compC Try.prog) = some c93 := by kernel_rfl
theorem r93 : compR Try.prog Try.f93 = .some [.tmp 2] := by kernel_rfl
theorem n93 : (Try.f93.name == "runtime.NumGoroutine") = false := by kernel_rfl
def c95 : C := .seq
  (.reg [(none, (.mov (.const (.int .i64 0)), .some 2))] []) (.seq (.seq
  (.reg [(none, (.mov (.tmp 0), .some 3)), (none, (.bin .rem (.tmp 3) (.const (.int .u64 2)), .some 4)), (none, (.bin .eql (.tmp 4) (.const (.int .u64 1)), .some 5))] []) (.cond (.tmp 5) (.seq
  (.reg [(none, (.mov (.tmp 0), .some 6)), (none, (.bin .quo (.tmp 6) (.const (.int .u64 2)), .some 7)), (none, (.cvt .i64 (.tmp 7), .some 8)), (none, (.un .neg (.tmp 8), .some 9)), (none, (.bin .sub (.tmp 9) (.const (.int .i64 1)), .some 10)), (none, (.mov (.tmp 10), .some 2))] []) .ret) .skip)) (.seq
  (.reg [(none, (.mov (.tmp 0), .some 11)), (none, (.bin .quo (.tmp 11) (.const (.int .u64 2)), .some 12)), (none, (.cvt .i64 (.tmp 12), .some 13)), (none, (.mov (.tmp 13), .some 2))] []) .ret))
theorem b95 : Try.f95.body.bind (compC Try.prog) = some c95 := by kernel_rfl
theorem r95 : compR Try.prog Try.f95 = .some [.tmp 2] := by kernel_rfl
theorem n95 : (Try.f95.name == "runtime.NumGoroutine") = false := by kernel_rfl
def c97 : C := .seq
  (.reg [(none, (.mov (.const (.int .i64 0)), .some 2))] []) (.seq
  (.reg [(none, (.mov (.tmp 0), .some 3)), (none, (.call (.func 85) [.tmp 3], .some 4)), (none, (.call (.func 94) [.tmp 4], .some 5)), (none, (.mov (.tmp 5), .some 2))] []) .ret)
theorem b97 : Try.f97.body.bind (compC Try.prog) = some c97 := by kernel_rfl
theorem r97 : compR Try.prog Try.f97 = .some [.tmp 2] := by kernel_rfl
theorem n97 : (Try.f97.name == "runtime.NumGoroutine") = false := by kernel_rfl
def c99 : C := .seq
  (.reg [(none, (.box (.tmp 0), .some 2)), (none, (.new [.slice none 0 0, .int .i64 0, .int .i64 0, .int .i64 0], .some 4)), (none, (.mov (.const (.slice none 0 0)), .some 5))] []) (.seq
  (.reg [(none, (.mov (.const (.slice none 0 0)), .some 6))] []) (.seq (.seq
  (.reg [(none, (.mov (.const (.int .i64 0)), .some 7))] []) (.block 0 (.loop (.seq (.seq
  (.reg [(none, (.mov (.tmp 7), .some 12)), (none, (.mov (.tmp 1), .some 13)), (none, (.bin .lss (.tmp 12) (.tmp 13), .some 14))] []) (.cond (.tmp 14) .skip (.exit 0))) (.seq (.block 1 (.seq
  (.reg [(none, (.fadr 1 (.tmp 2), .some 17)), (none, (.load none (.tmp 17), .some 18)), (none, (.mov (.tmp 18), .some 8))] []) (.seq
  (.reg [(none, (.load (.some 4) (.tmp 2), .some 20)), (none, (.call (.func 82) [.tmp 20], .some 21)), (none, (.mov (.tmp 21), .some 19)), (none, (.ext (.tmp 19) 0, .some 22)), (none, (.ext (.tmp 19) 1, .some 23)), (none, (.new [.slice none 0 0, .int .i64 0, .int .i64 0, .int .i64 0], .some 9)), (none, (.store 4 (.tmp 9) (.tmp 22), none)), (none, (.mov (.tmp 23), .some 10))] []) (.seq
  (.reg [(none, (.load (.some 4) (.tmp 9), .some 24)), (none, (.store 4 (.tmp 2) (.tmp 24), none))] []) (.seq (.seq
  (.reg [(none, (.fadr 2 (.tmp 2), .some 25)), (none, (.fadr 0 (.tmp 25), .some 26)), (none, (.load none (.tmp 26), .some 27)), (none, (.bin .neq (.tmp 27) (.const (.int .i64 0)), .some 28))] []) (.cond (.tmp 28) (.seq
  (.reg [(none, (.load (.some 4) (.tmp 2), .some 29)), (none, (.store 4 (.tmp 4) (.tmp 29), none)), (none, (.mov (.const (.slice none 0 0)), .some 5))] []) .ret) .skip)) (.seq (.seq
  (.reg [(none, (.mov (.tmp 7), .some 30)), (none, (.bin .gtr (.tmp 30) (.const (.int .i64 0)), .some 31))] []) (.cond (.tmp 31) (.seq
  (.reg [(none, (.mov (.tmp 6), .some 32)), (none, (.mov (.tmp 7), .some 33)), (none, (.bin .sub (.tmp 33) (.const (.int .i64 1)), .some 34)), (none, (.iadr 1 (.tmp 32) (.tmp 34), .some 35)), (none, (.load none (.tmp 35), .some 36)), (none, (.mov (.tmp 36), .some 11))] []) (.seq (.seq
  (.reg [(none, (.mov (.tmp 10), .some 37)), (none, (.mov (.tmp 11), .some 38)), (none, (.bin .sub (.const (.int .u64 18446744073709551615)) (.tmp 38), .some 39)), (none, (.bin .gtr (.tmp 37) (.tmp 39), .some 40)), (none, (.mov (.tmp 40), .some 41)), (.some (41, .false), (.mov (.tmp 10), .some 42)), (.some (41, .false), (.mov (.tmp 11), .some 43)), (.some (41, .false), (.bin .sub (.const (.int .u64 18446744073709551615)) (.tmp 43), .some 44)), (.some (41, .false), (.bin .eql (.tmp 42) (.tmp 44), .some 45)), (none, (.pick (.tmp 41) (.const (.bool .true)) (.tmp 45), .some 46))] []) (.cond (.tmp 46) (.seq
  (.reg [(none, (.load (.some 4) (.tmp 2), .some 47)), (none, (.mov (.tmp 8), .some 48)), (none, (.call (.func 129) [.tmp 47, .const (.int .i64 13), .tmp 48], .some 49)), (none, (.store 4 (.tmp 4) (.tmp 49), none)), (none, (.mov (.const (.slice none 0 0)), .some 5))] []) .ret) .skip))
  (.reg [(none, (.mov (.tmp 11), .some 50)), (none, (.mov (.tmp 10), .some 51)), (none, (.bin .add (.tmp 50) (.tmp 51), .some 52)), (none, (.bin .add (.tmp 52) (.const (.int .u64 1)), .some 53)), (none, (.mov (.tmp 53), .some 10))] []))) .skip))
  (.reg [(none, (.mov (.tmp 6), .some 54)), (none, (.mov (.tmp 10), .some 55)), (none, (.bsl 1 [.tmp 55], .some 56)), (none, (.app 1 8 (.tmp 54) (.tmp 56), .some 57)), (none, (.mov (.tmp 57), .some 6))] [])))))))
  (.reg [(none, (.mov (.tmp 7), .some 15)), (none, (.bin .add (.tmp 15) (.const (.int .i64 1)), .some 16)), (none, (.mov (.tmp 16), .some 7))] [])))))) (.seq
  (.reg [(none, (.load (.some 4) (.tmp 2), .some 58)), (none, (.mov (.tmp 6), .some 59)), (none, (.store 4 (.tmp 4) (.tmp 58), none)), (none, (.mov (.tmp 59), .some 5))] []) .ret)))
theorem b99 : Try.f99.body.bind (compC Try.prog) = some c99 := by kernel_rfl
theorem r99 : compR Try.prog Try.f99 = .some [.cell 4 (.some 4), .tmp 5] := by kernel_rfl
theorem n99 : (Try.f99.name == "runtime.NumGoroutine") = false := by kernel_rfl
def c100 : C := .seq
  (.reg [(none, (.mov (.const (.slice none 0 0)), .some 4))] []) (.seq
  (.reg [(none, (.mov (.tmp 0), .some 6)), (none, (.mov (.tmp 1), .some 7)), (none, (.call (.func 87) [.tmp 6, .tmp 7], .some 8)), (none, (.mov (.tmp 8), .some 5))] []) (.seq
  (.reg [(none, (.mov (.tmp 0), .some 9)), (none, (.mov (.tmp 5), .some 10)), (none, (.call (.func 137) [.tmp 9, .tmp 10], .some 11)), (none, (.mov (.tmp 11), .some 4))] []) .ret))
theorem b100 : Try.f100.body.bind (compC Try.prog) = some c100 := by kernel_rfl
theorem r100 : compR Try.prog Try.f100 = .some [.tmp 4] := by kernel_rfl
theorem n100 : (Try.f100.name == "runtime.NumGoroutine") = false := by kernel_rfl
def c110 : C := .reg [(none, (.mov (.tmp 0), .some 6)), (none, (.mov (.tmp 1), .some 7)), (none, (.mov (.tmp 2), .some 8)), (none, (.call (.func 140) [.tmp 7, .tmp 8], .some 9)), (none, (.call (.func 90) [.tmp 6, .tmp 9], .some 10))] []
theorem b110 : Try.f110.body.bind (compC Try.prog) = some c110 := by kernel_rfl
theorem r110 : compR Try.prog Try.f110 = .some [] := by kernel_rfl
theorem n110 : (Try.f110.name == "runtime.NumGoroutine") = false := by kernel_rfl
def c119 : C := .seq (.seq
  (.reg [(none, (.mov (.tmp 1), .some 8)), (none, (.call (.func 120) [.tmp 8], .some 9)), (none, (.un .not (.tmp 9), .some 10))] []) (.cond (.tmp 10) (.seq
  (.reg [(none, (.mov (.tmp 0), .some 11)), (none, (.call (.func 124) [.tmp 11, .const (.int .i64 3)], .some 12))] []) .ret) .skip)) (.seq
  (.reg [(none, (.mov (.tmp 0), .some 13)), (none, (.mov (.tmp 1), .some 14)), (none, (.len .false (.tmp 14), .some 15)), (none, (.cvt .u64 (.tmp 15), .some 16)), (none, (.call (.func 91) [.tmp 13, .tmp 16], .some 17))] []) (.seq
  (.reg [(none, (.mov (.const (.int .u64 0)), .some 4))] []) (.seq
  (.reg [(none, (.mov (.const (.int .i64 0)), .some 5))] []) (.seq
  (.reg [(none, (.mov (.tmp 1), .some 18)), (none, (.len .false (.tmp 18), .some 19)), (none, (.mov (.const (.int .i64 0)), .some 20))] []) (.block 0 (.loop (.seq
  (.reg [(none, (.bin .lss (.tmp 20) (.tmp 19), .some 21))] []) (.seq (.cond (.tmp 21) .skip (.exit 0)) (.seq (.block 1 (.seq
  (.reg [(none, (.iadr 3 (.tmp 18) (.tmp 20), .some 22)), (none, (.load (.some 3) (.tmp 22), .some 23)), (none, (.new [.int .u64 0, .int .i64 0, .int .i64 0], .some 7)), (none, (.store 3 (.tmp 7) (.tmp 23), none))] []) (.seq
  (.reg [(none, (.mov (.tmp 0), .some 24)), (none, (.fadr 0 (.tmp 7), .some 25)), (none, (.load none (.tmp 25), .some 26)), (none, (.mov (.tmp 4), .some 27)), (none, (.bin .sub (.tmp 26) (.tmp 27), .some 28)), (none, (.call (.func 91) [.tmp 24, .tmp 28], .some 29))] []) (.seq
  (.reg [(none, (.mov (.tmp 0), .some 30)), (none, (.fadr 1 (.tmp 7), .some 31)), (none, (.load none (.tmp 31), .some 32)), (none, (.cvt .u64 (.tmp 32), .some 33)), (none, (.call (.func 91) [.tmp 30, .tmp 33], .some 34))] []) (.seq
  (.reg [(none, (.mov (.tmp 0), .some 35)), (none, (.fadr 2 (.tmp 7), .some 36)), (none, (.load none (.tmp 36), .some 37)), (none, (.mov (.tmp 5), .some 38)), (none, (.bin .sub (.tmp 37) (.tmp 38), .some 39)), (none, (.bin .sub (.tmp 39) (.const (.int .i64 1)), .some 40)), (none, (.cvt .u64 (.tmp 40), .some 41)), (none, (.call (.func 91) [.tmp 35, .tmp 41], .some 42))] [])
  (.reg [(none, (.load (.some 3) (.tmp 7), .some 43)), (none, (.call (.func 126) [.tmp 43], .some 44)), (none, (.fadr 2 (.tmp 7), .some 45)), (none, (.load none (.tmp 45), .some 46)), (none, (.mov (.tmp 44), .some 4)), (none, (.mov (.tmp 46), .some 5))] [(0, 3), (1, 3)]))))))
  (.reg [(none, (.bin .add (.tmp 20) (.const (.int .i64 1)), .some 47)), (none, (.mov (.tmp 47), .some 20))] []))))))))))
theorem b119 : Try.f119.body.bind (compC Try.prog) = some c119 := by kernel_rfl
theorem r119 : compR Try.prog Try.f119 = .some [] := by kernel_rfl
theorem n119 : (Try.f119.name == "runtime.NumGoroutine") = false := by kernel_rfl
def c121 : C := .seq
  (.reg [(none, (.mov (.const (.bool .false)), .some 4))] []) (.seq
  (.reg [(none, (.mov (.tmp 0), .some 5)), (none, (.mov (.tmp 1), .some 6)), (none, (.call (.func 142) [.tmp 5, .tmp 6], .some 7)), (none, (.mov (.tmp 7), .some 4))] []) .ret)
theorem b121 : Try.f121.body.bind (compC Try.prog) = some c121 := by kernel_rfl
theorem r121 : compR Try.prog Try.f121 = .some [.tmp 4] := by kernel_rfl
theorem n121 : (Try.f121.name == "runtime.NumGoroutine") = false := by kernel_rfl
def c122 : C := .seq (.seq
  (.reg [(none, (.mov (.tmp 2), .some 6)), (none, (.un .not (.tmp 6), .some 7))] []) (.cond (.tmp 7) (.seq
  (.reg [(none, (.mov (.tmp 0), .some 8)), (none, (.call (.func 124) [.tmp 8, .const (.int .i64 3)], .some 9))] []) .ret) .skip))
  (.reg [(none, (.mov (.tmp 0), .some 10)), (none, (.mov (.tmp 1), .some 11)), (none, (.call (.func 91) [.tmp 10, .tmp 11], .some 12))] [])
theorem b122 : Try.f122.body.bind (compC Try.prog) = some c122 := by kernel_rfl
theorem r122 : compR Try.prog Try.f122 = .some [] := by kernel_rfl
theorem n122 : (Try.f122.name == "runtime.NumGoroutine") = false := by kernel_rfl
def c125 : C := .seq
  (.reg [(none, (.mov (.const (.slice none 0 0)), .some 2))] []) (.seq
  (.reg [(none, (.mov (.const (.slice none 0 0)), .some 3))] []) (.seq (.seq
  (.reg [(none, (.mov (.tmp 0), .some 6)), (none, (.len .false (.tmp 6), .some 7)), (none, (.mov (.const (.int .i64 0)), .some 8))] []) (.block 0 (.loop (.seq
  (.reg [(none, (.bin .lss (.tmp 8) (.tmp 7), .some 9))] []) (.seq (.cond (.tmp 9) .skip (.exit 0)) (.seq (.block 1 (.seq
  (.reg [(none, (.mov (.tmp 8), .some 10)), (none, (.iadr 1 (.tmp 6) (.tmp 8), .some 11)), (none, (.load none (.tmp 11), .some 12)), (none, (.mov (.tmp 10), .some 4)), (none, (.mov (.tmp 12), .some 5))] []) (.seq (.seq
  (.reg [(none, (.mov (.tmp 4), .some 13)), (none, (.bin .gtr (.tmp 13) (.const (.int .i64 0)), .some 14))] []) (.cond (.tmp 14)
  (.reg [(none, (.mov (.tmp 5), .some 15)), (none, (.mov (.tmp 0), .some 16)), (none, (.mov (.tmp 4), .some 17)), (none, (.bin .sub (.tmp 17) (.const (.int .i64 1)), .some 18)), (none, (.iadr 1 (.tmp 16) (.tmp 18), .some 19)), (none, (.load none (.tmp 19), .some 20)), (none, (.bin .add (.tmp 20) (.const (.int .u64 1)), .some 21)), (none, (.bin .sub (.tmp 15) (.tmp 21), .some 22)), (none, (.mov (.tmp 22), .some 5))] []) .skip))
  (.reg [(none, (.mov (.tmp 3), .some 23)), (none, (.mov (.tmp 5), .some 24)), (none, (.bsl 1 [.tmp 24], .some 25)), (none, (.app 1 8 (.tmp 23) (.tmp 25), .some 26)), (none, (.mov (.tmp 26), .some 3))] []))))
  (.reg [(none, (.bin .add (.tmp 8) (.const (.int .i64 1)), .some 27)), (none, (.mov (.tmp 27), .some 8))] []))))))) (.seq
  (.reg [(none, (.mov (.tmp 3), .some 28)), (none, (.mov (.tmp 28), .some 2))] []) .ret)))
theorem b125 : Try.f125.body.bind (compC Try.prog) = some c125 := by kernel_rfl
theorem r125 : compR Try.prog Try.f125 = .some [.tmp 2] := by kernel_rfl
theorem n125 : (Try.f125.name == "runtime.NumGoroutine") = false := by kernel_rfl
def c136 : C := .seq
  (.reg [(none, (.mov (.const (.int .i64 0)), .some 2))] []) (.seq (.seq
  (.reg [(none, (.mov (.tmp 0), .some 3)), (none, (.eqp .false (.tmp 3) (.const (.pointer none)), .some 4))] []) (.cond (.tmp 4) (.seq
  (.reg [(none, (.mov (.const (.int .i64 0)), .some 2))] []) .ret) .skip)) (.seq
  (.reg [(none, (.mov (.tmp 0), .some 5)), (none, (.nilc (.tmp 5), .some 6)), (none, (.fadr 0 (.tmp 6), .some 7)), (none, (.load none (.tmp 7), .some 8)), (none, (.mov (.tmp 0), .some 9)), (none, (.nilc (.tmp 9), .some 10)), (none, (.fadr 1 (.tmp 10), .some 11)), (none, (.load none (.tmp 11), .some 12)), (none, (.len .false (.tmp 12), .some 13)), (none, (.bin .sub (.tmp 8) (.tmp 13), .some 14)), (none, (.mov (.tmp 14), .some 2))] [(3, 7)]) .ret))
theorem b136 : Try.f136.body.bind (compC Try.prog) = some c136 := by kernel_rfl
theorem r136 : compR Try.prog Try.f136 = .some [.tmp 2] := by kernel_rfl
theorem n136 : (Try.f136.name == "runtime.NumGoroutine") = false := by kernel_rfl
def c140 : C := .seq
  (.reg [(none, (.mov (.const (.slice none 0 0)), .some 4))] []) (.seq
  (.reg [(none, (.mov (.const (.slice none 0 0)), .some 5))] []) (.seq (.seq
  (.reg [(none, (.mov (.tmp 1), .some 6)), (none, (.mx .true (.tmp 6) (.const (.int .i64 0)), .some 7)), (none, (.mx .false (.tmp 7) (.const (.int .i64 8)), .some 8)), (none, (.mov (.const (.int .i64 0)), .some 9))] []) (.block 0 (.loop (.seq
  (.reg [(none, (.bin .lss (.tmp 9) (.tmp 8), .some 10))] []) (.seq (.cond (.tmp 10) .skip (.exit 0)) (.seq (.block 1 (.seq
  (.reg [(none, (.mov (.tmp 5), .some 11)), (none, (.mov (.tmp 0), .some 12)), (none, (.bin .rem (.tmp 12) (.const (.int .u64 256)), .some 13)), (none, (.cvt .u8 (.tmp 13), .some 14)), (none, (.bsl 1 [.tmp 14], .some 15)), (none, (.app 1 1 (.tmp 11) (.tmp 15), .some 16)), (none, (.mov (.tmp 16), .some 5))] [])
  (.reg [(none, (.mov (.tmp 0), .some 17)), (none, (.bin .quo (.tmp 17) (.const (.int .u64 256)), .some 18)), (none, (.mov (.tmp 18), .some 0))] [])))
  (.reg [(none, (.bin .add (.tmp 9) (.const (.int .i64 1)), .some 19)), (none, (.mov (.tmp 19), .some 9))] []))))))) (.seq
  (.reg [(none, (.mov (.tmp 5), .some 20)), (none, (.mov (.tmp 20), .some 4))] []) .ret)))
theorem b140 : Try.f140.body.bind (compC Try.prog) = some c140 := by kernel_rfl
theorem r140 : compR Try.prog Try.f140 = .some [.tmp 4] := by kernel_rfl
theorem n140 : (Try.f140.name == "runtime.NumGoroutine") = false := by kernel_rfl
def c141 : C := .seq
  (.reg [(none, (.box (.tmp 0), .some 3)), (none, (.mov (.const (.bool .false)), .some 6))] []) (.seq
  (.reg [(none, (.fadr 1 (.tmp 3), .some 8)), (none, (.load none (.tmp 8), .some 9)), (none, (.bin .geq (.tmp 9) (.const (.int .i64 1)), .some 10)), (none, (.mov (.tmp 10), .some 11)), (.some (11, .true), (.fadr 1 (.tmp 3), .some 12)), (.some (11, .true), (.load none (.tmp 12), .some 13)), (.some (11, .true), (.bin .leq (.tmp 13) (.const (.int .i64 16)), .some 14)), (none, (.pick (.tmp 11) (.tmp 14) (.const (.bool .false)), .some 15)), (none, (.mov (.tmp 15), .some 7))] []) (.seq
  (.reg [(none, (.mov (.tmp 7), .some 16)), (none, (.mov (.tmp 16), .some 17)), (.some (17, .true), (.fadr 0 (.tmp 3), .some 18)), (.some (17, .true), (.load none (.tmp 18), .some 19)), (.some (17, .true), (.mov (.tmp 1), .some 20)), (.some (17, .true), (.bin .geq (.tmp 19) (.tmp 20), .some 21)), (none, (.pick (.tmp 17) (.tmp 21) (.const (.bool .false)), .some 22)), (none, (.mov (.tmp 22), .some 23)), (.some (23, .true), (.fadr 0 (.tmp 3), .some 24)), (.some (23, .true), (.load none (.tmp 24), .some 25)), (.some (23, .true), (.bin .lss (.tmp 25) (.const (.int .u64 4611686018427387904)), .some 26)), (none, (.pick (.tmp 23) (.tmp 26) (.const (.bool .false)), .some 27)), (none, (.mov (.tmp 27), .some 28)), (.some (28, .true), (.load (.some 3) (.tmp 3), .some 29)), (.some (28, .true), (.call (.func 126) [.tmp 29], .some 30)), (.some (28, .true), (.bin .leq (.tmp 30) (.const (.int .u64 4611686018427387904)), .some 31)), (none, (.pick (.tmp 28) (.tmp 31) (.const (.bool .false)), .some 32)), (none, (.mov (.tmp 32), .some 33)), (.some (33, .true), (.fadr 2 (.tmp 3), .some 34)), (.some (33, .true), (.load none (.tmp 34), .some 35)), (.some (33, .true), (.mov (.tmp 2), .some 36)), (.some (33, .true), (.bin .gtr (.tmp 35) (.tmp 36), .some 37)), (none, (.pick (.tmp 33) (.tmp 37) (.const (.bool .false)), .some 38)), (none, (.mov (.tmp 38), .some 39)), (.some (39, .true), (.fadr 2 (.tmp 3), .some 40)), (.some (39, .true), (.load none (.tmp 40), .some 41)), (.some (39, .true), (.bin .leq (.tmp 41) (.const (.int .i64 1099511627775)), .some 42)), (none, (.pick (.tmp 39) (.tmp 42) (.const (.bool .false)), .some 43)), (none, (.mov (.tmp 43), .some 6))] []) .ret))
theorem b141 : Try.f141.body.bind (compC Try.prog) = some c141 := by kernel_rfl
theorem r141 : compR Try.prog Try.f141 = .some [.tmp 6] := by kernel_rfl
theorem n141 : (Try.f141.name == "runtime.NumGoroutine") = false := by kernel_rfl
end Go.Proofs.Ytgphhganepjaiaa
