/-
  The codes of the seat's functions over abstract values, each shown to be its function's own (by program: wip/tools/codes.py).
-/
import Derived.Test.YtpjkmidjjodplaaA2
import Derived.Test.YtpjkmidjjodplaaProg
import Derived.KernelRfl
namespace Go.Proofs.Ytpjkmidjjodplaa
def c7 : C := .seq
  (.reg [(none, (.mov (.const (.bool .false)), .some 4))] []) (.seq (.seq
  (.reg [(none, (.mov (.tmp 0), .some 16)), (none, (.call (.func 17) [.tmp 16], .some 17))] []) (.cond (.tmp 17) (.seq
  (.reg [(none, (.call (.func 18) [], .some 18)), (none, (.mov (.tmp 18), .some 4))] []) .ret) .skip)) (.seq
  (.reg [(none, (.mov (.tmp 0), .some 20)), (none, (.call (.func 20) [.tmp 20, .const (.int .i64 5000)], .some 21)), (none, (.mov (.tmp 21), .some 19)), (none, (.ext (.tmp 19) 0, .some 22)), (none, (.ext (.tmp 19) 1, .some 23)), (none, (.new [.int .i64 0, .int .i64 0], .some 6)), (none, (.mov (.tmp 22), .some 5)), (none, (.store 2 (.tmp 6) (.tmp 23), none))] []) (.seq (.seq
  (.reg [(none, (.fadr 0 (.tmp 6), .some 24)), (none, (.load none (.tmp 24), .some 25)), (none, (.bin .neq (.tmp 25) (.const (.int .i64 0)), .some 26))] []) (.cond (.tmp 26) (.seq
  (.reg [(none, (.call (.func 18) [], .some 27)), (none, (.mov (.tmp 27), .some 4))] []) .ret) .skip)) (.seq
  (.reg [(none, (.mov (.tmp 5), .some 28)), (none, (.len .false (.tmp 28), .some 29)), (none, (.mov (.tmp 29), .some 7))] []) (.seq
  (.reg [(none, (.mov (.tmp 0), .some 31)), (none, (.call (.func 42) [.tmp 31], .some 32)), (none, (.mov (.tmp 7), .some 33)), (none, (.call (.func 47) [.tmp 32, .tmp 33], .some 34)), (none, (.mov (.tmp 34), .some 30)), (none, (.ext (.tmp 30) 0, .some 35)), (none, (.ext (.tmp 30) 1, .some 36)), (none, (.new [.int .i64 0, .int .i64 0], .some 9)), (none, (.mov (.tmp 35), .some 8)), (none, (.store 2 (.tmp 9) (.tmp 36), none))] []) (.seq
  (.reg [(none, (.mov (.tmp 0), .some 38)), (none, (.mov (.tmp 7), .some 39)), (none, (.call (.func 19) [.tmp 38, .tmp 39], .some 40)), (none, (.mov (.tmp 40), .some 37)), (none, (.ext (.tmp 37) 0, .some 41)), (none, (.ext (.tmp 37) 1, .some 42)), (none, (.new [.int .i64 0, .int .i64 0], .some 11)), (none, (.mov (.tmp 41), .some 10)), (none, (.store 2 (.tmp 11) (.tmp 42), none))] []) (.seq
  (.reg [(none, (.mov (.tmp 0), .some 44)), (none, (.call (.func 42) [.tmp 44], .some 45)), (none, (.call (.func 47) [.tmp 45, .const (.int .i64 4611686018427387904)], .some 46)), (none, (.mov (.tmp 46), .some 43)), (none, (.ext (.tmp 43) 0, .some 47)), (none, (.ext (.tmp 43) 1, .some 48)), (none, (.new [.int .i64 0, .int .i64 0], .some 13)), (none, (.mov (.tmp 47), .some 12)), (none, (.store 2 (.tmp 13) (.tmp 48), none))] []) (.seq (.seq
  (.reg [(none, (.fadr 0 (.tmp 9), .some 49)), (none, (.load none (.tmp 49), .some 50)), (none, (.bin .neq (.tmp 50) (.const (.int .i64 0)), .some 51)), (none, (.mov (.tmp 51), .some 52)), (.some (52, .false), (.fadr 0 (.tmp 11), .some 53)), (.some (52, .false), (.load none (.tmp 53), .some 54)), (.some (52, .false), (.bin .neq (.tmp 54) (.const (.int .i64 0)), .some 55)), (none, (.pick (.tmp 52) (.const (.bool .true)) (.tmp 55), .some 56)), (none, (.mov (.tmp 56), .some 57)), (.some (57, .false), (.fadr 0 (.tmp 13), .some 58)), (.some (57, .false), (.load none (.tmp 58), .some 59)), (.some (57, .false), (.bin .neq (.tmp 59) (.const (.int .i64 0)), .some 60)), (none, (.pick (.tmp 57) (.const (.bool .true)) (.tmp 60), .some 61)), (none, (.mov (.tmp 61), .some 62)), (.some (62, .false), (.mov (.tmp 8), .some 63)), (.some (62, .false), (.mov (.tmp 5), .some 64)), (.some (62, .false), (.call (.func 21) [.tmp 63, .tmp 64], .some 65)), (.some (62, .false), (.un .not (.tmp 65), .some 66)), (none, (.pick (.tmp 62) (.const (.bool .true)) (.tmp 66), .some 67)), (none, (.mov (.tmp 67), .some 68)), (.some (68, .false), (.mov (.tmp 10), .some 69)), (.some (68, .false), (.mov (.tmp 5), .some 70)), (.some (68, .false), (.call (.func 21) [.tmp 69, .tmp 70], .some 71)), (.some (68, .false), (.un .not (.tmp 71), .some 72)), (none, (.pick (.tmp 68) (.const (.bool .true)) (.tmp 72), .some 73)), (none, (.mov (.tmp 73), .some 74)), (.some (74, .false), (.mov (.tmp 12), .some 75)), (.some (74, .false), (.mov (.tmp 5), .some 76)), (.some (74, .false), (.call (.func 21) [.tmp 75, .tmp 76], .some 77)), (.some (74, .false), (.un .not (.tmp 77), .some 78)), (none, (.pick (.tmp 74) (.const (.bool .true)) (.tmp 78), .some 79))] []) (.cond (.tmp 79) (.seq
  (.reg [(none, (.mov (.const (.bool .false)), .some 4))] []) .ret) .skip)) (.seq
  (.reg [(none, (.mov (.tmp 1), .some 80)), (none, (.mx .true (.tmp 80) (.const (.int .i64 (-5))), .some 81)), (none, (.mov (.tmp 7), .some 82)), (none, (.bin .sub (.tmp 82) (.const (.int .i64 1)), .some 83)), (none, (.mx .false (.tmp 81) (.tmp 83), .some 84)), (none, (.mov (.tmp 84), .some 1))] []) (.seq (.seq
  (.reg [(none, (.mov (.tmp 7), .some 85)), (none, (.bin .eql (.tmp 85) (.const (.int .i64 0)), .some 86))] []) (.cond (.tmp 86) (.seq
  (.reg [(none, (.call (.func 18) [], .some 87)), (none, (.mov (.tmp 87), .some 4))] []) .ret) .skip)) (.seq
  (.reg [(none, (.mov (.tmp 0), .some 89)), (none, (.call (.func 42) [.tmp 89], .some 90)), (none, (.mov (.tmp 1), .some 91)), (none, (.call (.func 47) [.tmp 90, .tmp 91], .some 92)), (none, (.mov (.tmp 92), .some 88)), (none, (.ext (.tmp 88) 0, .some 93)), (none, (.ext (.tmp 88) 1, .some 94)), (none, (.new [.int .i64 0, .int .i64 0], .some 15)), (none, (.mov (.tmp 93), .some 14)), (none, (.store 2 (.tmp 15) (.tmp 94), none))] []) (.seq
  (.reg [(none, (.mov (.tmp 14), .some 95)), (none, (.len .false (.tmp 95), .some 96)), (none, (.bin .eql (.tmp 96) (.const (.int .i64 0)), .some 97)), (none, (.mov (.tmp 97), .some 98)), (.some (98, .true), (.fadr 0 (.tmp 15), .some 99)), (.some (98, .true), (.load none (.tmp 99), .some 100)), (.some (98, .true), (.bin .eql (.tmp 100) (.const (.int .i64 11)), .some 101)), (none, (.pick (.tmp 98) (.tmp 101) (.const (.bool .false)), .some 102)), (none, (.mov (.tmp 102), .some 103)), (.some (103, .true), (.call (.func 18) [], .some 104)), (none, (.pick (.tmp 103) (.tmp 104) (.const (.bool .false)), .some 105)), (none, (.mov (.tmp 105), .some 4))] []) .ret))))))))))))
theorem b7 : Try.f7.body.bind (compC Try.prog) = some c7 := by kernel_rfl
theorem r7 : compR Try.prog Try.f7 = .some [.tmp 4] := by kernel_rfl
theorem n7 : (Try.f7.name == "runtime.NumGoroutine") = false := by kernel_rfl
def c9 : C := .seq
  (.reg [(none, (.mov (.const (.bool .false)), .some 2))] []) (.seq (.seq
  (.reg [(none, (.mov (.tmp 0), .some 14)), (none, (.len .false (.tmp 14), .some 15)), (none, (.bin .gtr (.tmp 15) (.const (.int .i64 500)), .some 16))] []) (.cond (.tmp 16) (.seq
  (.reg [(none, (.call (.func 37) [], .some 17)), (none, (.mov (.tmp 17), .some 2))] []) .ret) .skip)) (.seq
  (.reg [(none, (.mov (.tmp 0), .some 19)), (none, (.call (.func 51) [.tmp 19], .some 20)), (none, (.mov (.tmp 20), .some 18)), (none, (.ext (.tmp 18) 0, .some 21)), (none, (.ext (.tmp 18) 1, .some 22)), (none, (.new [.int .i64 0, .int .i64 0], .some 4)), (none, (.mov (.tmp 21), .some 3)), (none, (.store 2 (.tmp 4) (.tmp 22), none))] []) (.seq
  (.reg [(none, (.mov (.tmp 0), .some 24)), (none, (.call (.func 52) [.tmp 24], .some 25)), (none, (.mov (.tmp 25), .some 23)), (none, (.ext (.tmp 23) 0, .some 26)), (none, (.ext (.tmp 23) 1, .some 27)), (none, (.new [.int .i64 0, .int .i64 0], .some 6)), (none, (.mov (.tmp 26), .some 5)), (none, (.store 2 (.tmp 6) (.tmp 27), none))] []) (.seq
  (.reg [(none, (.mov (.tmp 0), .some 28)), (none, (.call (.func 53) [.tmp 28], .some 29)), (none, (.mov (.tmp 29), .some 7))] []) (.seq
  (.reg [(none, (.mov (.tmp 7), .some 30)), (none, (.call (.func 54) [.tmp 30], .some 31)), (none, (.new [.slice none 0 0, .int .i64 0, .int .i64 0], .some 8)), (none, (.store 3 (.tmp 8) (.tmp 31), none))] []) (.seq
  (.reg [(none, (.mov (.tmp 0), .some 33)), (none, (.build [.slice none 0 0, .int .i64 0, .int .i64 0, .int .i64 0] [(0, (1, .tmp 33))], .some 34)), (none, (.call (.func 55) [.tmp 34], .some 35)), (none, (.mov (.tmp 35), .some 32)), (none, (.ext (.tmp 32) 0, .some 36)), (none, (.ext (.tmp 32) 1, .some 37)), (none, (.new [.slice none 0 0, .int .i64 0, .int .i64 0, .int .i64 0], .some 9)), (none, (.new [.slice none 0 0, .int .i64 0, .int .i64 0], .some 10)), (none, (.store 4 (.tmp 9) (.tmp 36), none)), (none, (.store 3 (.tmp 10) (.tmp 37), none))] []) (.seq (.seq
  (.reg [(none, (.mov (.tmp 3), .some 38)), (none, (.mov (.tmp 5), .some 39)), (none, (.call (.func 46) [.tmp 38, .tmp 39], .some 40)), (none, (.un .not (.tmp 40), .some 41)), (none, (.mov (.tmp 41), .some 42)), (.some (42, .false), (.load (.some 2) (.tmp 4), .some 43)), (.some (42, .false), (.load (.some 2) (.tmp 6), .some 44)), (.some (42, .false), (.eqa .true 2 (.tmp 43) (.tmp 44), .some 45)), (none, (.pick (.tmp 42) (.const (.bool .true)) (.tmp 45), .some 46)), (none, (.mov (.tmp 46), .some 47)), (.some (47, .false), (.load (.some 3) (.tmp 8), .some 48)), (.some (47, .false), (.bsl 3 [.tmp 48], .some 49)), (.some (47, .false), (.load (.some 3) (.tmp 10), .some 50)), (.some (47, .false), (.bsl 3 [.tmp 50], .some 51)), (.some (47, .false), (.call (.func 46) [.tmp 49, .tmp 51], .some 52)), (.some (47, .false), (.un .not (.tmp 52), .some 53)), (none, (.pick (.tmp 47) (.const (.bool .true)) (.tmp 53), .some 54)), (none, (.mov (.tmp 54), .some 55)), (.some (55, .false), (.mov (.tmp 7), .some 56)), (.some (55, .false), (.call (.func 56) [.tmp 56], .some 57)), (.some (55, .false), (.fadr 2 (.tmp 9), .some 58)), (.some (55, .false), (.load (.some 2) (.tmp 58), .some 59)), (.some (55, .false), (.eqa .true 2 (.tmp 57) (.tmp 59), .some 60)), (none, (.pick (.tmp 55) (.const (.bool .true)) (.tmp 60), .some 61)), (none, (.mov (.tmp 61), .some 62)), (.some (62, .false), (.fadr 2 (.tmp 9), .some 63)), (.some (62, .false), (.fadr 0 (.tmp 63), .some 64)), (.some (62, .false), (.load none (.tmp 64), .some 65)), (.some (62, .false), (.bin .eql (.tmp 65) (.const (.int .i64 0)), .some 66)), (.some (62, .false), (.mov (.tmp 66), .some 67)), (.some (67, .true), (.mov (.tmp 7), .some 68)), (.some (67, .true), (.call (.func 57) [.tmp 68], .some 69)), (.some (67, .true), (.fadr 1 (.tmp 9), .some 70)), (.some (67, .true), (.load none (.tmp 70), .some 71)), (.some (67, .true), (.bin .neq (.tmp 69) (.tmp 71), .some 72)), (.some (62, .false), (.pick (.tmp 67) (.tmp 72) (.const (.bool .false)), .some 73)), (none, (.pick (.tmp 62) (.const (.bool .true)) (.tmp 73), .some 74))] [(5, 6), (10, 12), (19, 21), (31, 33)]) (.cond (.tmp 74) (.seq
  (.reg [(none, (.mov (.const (.bool .false)), .some 2))] []) .ret) .skip)) (.seq
  (.reg [(none, (.mov (.tmp 0), .some 75)), (none, (.call (.func 53) [.tmp 75], .some 76)), (none, (.mov (.tmp 76), .some 11))] []) (.seq
  (.reg [(none, (.mov (.tmp 11), .some 78)), (none, (.call (.func 58) [.tmp 78], .some 79)), (none, (.mov (.tmp 79), .some 77)), (none, (.ext (.tmp 77) 0, .some 80)), (none, (.ext (.tmp 77) 1, .some 81)), (none, (.mov (.tmp 80), .some 12)), (none, (.mov (.tmp 81), .some 13))] []) (.seq (.seq
  (.reg [(none, (.fadr 2 (.tmp 9), .some 82)), (none, (.fadr 0 (.tmp 82), .some 83)), (none, (.load none (.tmp 83), .some 84)), (none, (.bin .eql (.tmp 84) (.const (.int .i64 0)), .some 85))] []) (.cond (.tmp 85) (.seq (.seq
  (.reg [(none, (.mov (.tmp 12), .some 86)), (none, (.mov (.tmp 86), .some 87)), (.some (87, .true), (.mov (.tmp 11), .some 88)), (.some (87, .true), (.call (.func 59) [.tmp 88], .some 89)), (.some (87, .true), (.fadr 1 (.tmp 10), .some 90)), (.some (87, .true), (.load none (.tmp 90), .some 91)), (.some (87, .true), (.bin .neq (.tmp 89) (.tmp 91), .some 92)), (none, (.pick (.tmp 87) (.tmp 92) (.const (.bool .false)), .some 93))] [(3, 5)]) (.cond (.tmp 93) (.seq
  (.reg [(none, (.mov (.const (.bool .false)), .some 2))] []) .ret) .skip)) (.seq
  (.reg [(none, (.mov (.tmp 13), .some 94)), (none, (.load (.some 3) (.tmp 10), .some 95)), (none, (.call (.func 22) [.tmp 95], .some 96)), (none, (.bin .eql (.tmp 94) (.tmp 96), .some 97)), (none, (.mov (.tmp 97), .some 98)), (.some (98, .true), (.mov (.tmp 12), .some 99)), (.some (98, .true), (.load (.some 3) (.tmp 10), .some 100)), (.some (98, .true), (.call (.func 26) [.tmp 100], .some 101)), (.some (98, .true), (.eqb .false (.tmp 99) (.tmp 101), .some 102)), (none, (.pick (.tmp 98) (.tmp 102) (.const (.bool .false)), .some 103)), (none, (.mov (.tmp 103), .some 104)), (.some (104, .true), (.mov (.tmp 11), .some 105)), (.some (104, .true), (.call (.func 60) [.tmp 105], .some 106)), (none, (.pick (.tmp 104) (.tmp 106) (.const (.bool .false)), .some 107)), (none, (.mov (.tmp 107), .some 108)), (.some (108, .true), (.call (.func 37) [], .some 109)), (none, (.pick (.tmp 108) (.tmp 109) (.const (.bool .false)), .some 110)), (none, (.mov (.tmp 110), .some 2))] []) .ret)) .skip)) (.seq (.seq
  (.reg [(none, (.mov (.tmp 11), .some 111)), (none, (.call (.func 60) [.tmp 111], .some 112)), (none, (.mov (.tmp 112), .some 113)), (.some (113, .true), (.mov (.tmp 12), .some 114)), (none, (.pick (.tmp 113) (.tmp 114) (.const (.bool .false)), .some 115)), (none, (.mov (.tmp 115), .some 116)), (.some (116, .true), (.mov (.tmp 11), .some 117)), (.some (116, .true), (.call (.func 59) [.tmp 117], .some 118)), (.some (116, .true), (.bin .neq (.tmp 118) (.const (.int .i64 0)), .some 119)), (.some (116, .true), (.mov (.tmp 119), .some 120)), (.some (120, .false), (.mov (.tmp 11), .some 121)), (.some (120, .false), (.call (.func 56) [.tmp 121], .some 122)), (.some (120, .false), (.fadr 2 (.tmp 9), .some 123)), (.some (120, .false), (.load (.some 2) (.tmp 123), .some 124)), (.some (120, .false), (.eqa .true 2 (.tmp 122) (.tmp 124), .some 125)), (.some (116, .true), (.pick (.tmp 120) (.const (.bool .true)) (.tmp 125), .some 126)), (none, (.pick (.tmp 116) (.tmp 126) (.const (.bool .false)), .some 127))] [(11, 13)]) (.cond (.tmp 127) (.seq
  (.reg [(none, (.mov (.const (.bool .false)), .some 2))] []) .ret) .skip)) (.seq (.seq
  (.reg [(none, (.mov (.tmp 11), .some 128)), (none, (.call (.func 56) [.tmp 128], .some 129)), (none, (.fadr 2 (.tmp 9), .some 130)), (none, (.load (.some 2) (.tmp 130), .some 131)), (none, (.eqa .false 2 (.tmp 129) (.tmp 131), .some 132)), (none, (.mov (.tmp 132), .some 133)), (.some (133, .true), (.mov (.tmp 12), .some 134)), (none, (.pick (.tmp 133) (.tmp 134) (.const (.bool .false)), .some 135))] [(1, 3)]) (.cond (.tmp 135) (.seq
  (.reg [(none, (.call (.func 37) [], .some 136)), (none, (.mov (.tmp 136), .some 2))] []) .ret) .skip)) (.seq
  (.reg [(none, (.mov (.tmp 11), .some 137)), (none, (.call (.func 60) [.tmp 137], .some 138)), (none, (.mov (.tmp 138), .some 139)), (.some (139, .false), (.mov (.tmp 13), .some 140)), (.some (139, .false), (.bin .eql (.tmp 140) (.const (.int .i64 0)), .some 141)), (.some (139, .false), (.mov (.tmp 141), .some 142)), (.some (142, .true), (.mov (.tmp 12), .some 143)), (.some (142, .true), (.un .not (.tmp 143), .some 144)), (.some (139, .false), (.pick (.tmp 142) (.tmp 144) (.const (.bool .false)), .some 145)), (.some (139, .false), (.mov (.tmp 145), .some 146)), (.some (146, .true), (.mov (.tmp 11), .some 147)), (.some (146, .true), (.call (.func 56) [.tmp 147], .some 148)), (.some (146, .true), (.fadr 2 (.tmp 9), .some 149)), (.some (146, .true), (.load (.some 2) (.tmp 149), .some 150)), (.some (146, .true), (.eqa .false 2 (.tmp 148) (.tmp 150), .some 151)), (.some (139, .false), (.pick (.tmp 146) (.tmp 151) (.const (.bool .false)), .some 152)), (none, (.pick (.tmp 139) (.const (.bool .true)) (.tmp 152), .some 153)), (none, (.mov (.tmp 153), .some 154)), (.some (154, .true), (.call (.func 37) [], .some 155)), (none, (.pick (.tmp 154) (.tmp 155) (.const (.bool .false)), .some 156)), (none, (.mov (.tmp 156), .some 2))] [(11, 13)]) .ret)))))))))))))
theorem b9 : Try.f9.body.bind (compC Try.prog) = some c9 := by kernel_rfl
theorem r9 : compR Try.prog Try.f9 = .some [.tmp 2] := by kernel_rfl
theorem n9 : (Try.f9.name == "runtime.NumGoroutine") = false := by kernel_rfl
def c11 : C := .seq
  (.reg [(none, (.mov (.const (.bool .false)), .some 2))] []) (.seq (.seq
  (.reg [(none, (.mov (.tmp 0), .some 8)), (none, (.len .false (.tmp 8), .some 9)), (none, (.bin .gtr (.tmp 9) (.const (.int .i64 500)), .some 10))] []) (.cond (.tmp 10) (.seq
  (.reg [(none, (.call (.func 37) [], .some 11)), (none, (.mov (.tmp 11), .some 2))] []) .ret) .skip)) (.seq
  (.reg [(none, (.mov (.tmp 0), .some 13)), (none, (.call (.func 51) [.tmp 13], .some 14)), (none, (.mov (.tmp 14), .some 12)), (none, (.ext (.tmp 12) 0, .some 15)), (none, (.ext (.tmp 12) 1, .some 16)), (none, (.new [.int .i64 0, .int .i64 0], .some 4)), (none, (.mov (.tmp 15), .some 3)), (none, (.store 2 (.tmp 4) (.tmp 16), none))] []) (.seq (.seq
  (.reg [(none, (.fadr 0 (.tmp 4), .some 17)), (none, (.load none (.tmp 17), .some 18)), (none, (.bin .neq (.tmp 18) (.const (.int .i64 0)), .some 19))] []) (.cond (.tmp 19) (.seq
  (.reg [(none, (.mov (.tmp 3), .some 20)), (none, (.len .false (.tmp 20), .some 21)), (none, (.bin .eql (.tmp 21) (.const (.int .i64 0)), .some 22)), (none, (.mov (.tmp 22), .some 23)), (.some (23, .true), (.call (.func 37) [], .some 24)), (none, (.pick (.tmp 23) (.tmp 24) (.const (.bool .false)), .some 25)), (none, (.mov (.tmp 25), .some 2))] []) .ret) .skip)) (.seq (.seq
  (.reg [(none, (.mov (.const (.int .i64 0)), .some 5))] []) (.block 0 (.loop (.seq (.seq
  (.reg [(none, (.mov (.tmp 5), .some 26)), (none, (.mov (.tmp 3), .some 27)), (none, (.len .false (.tmp 27), .some 28)), (none, (.bin .lss (.tmp 26) (.tmp 28), .some 29))] []) (.cond (.tmp 29) .skip (.exit 0))) (.seq (.block 1 (.seq
  (.reg [(none, (.mov (.tmp 3), .some 32)), (none, (.mov (.tmp 5), .some 33)), (none, (.iadr 3 (.tmp 32) (.tmp 33), .some 34)), (none, (.load (.some 3) (.tmp 34), .some 35)), (none, (.call (.func 39) [.tmp 35], .some 36)), (none, (.un .not (.tmp 36), .some 37))] []) (.cond (.tmp 37) (.seq
  (.reg [(none, (.mov (.const (.bool .false)), .some 2))] []) .ret) .skip)))
  (.reg [(none, (.mov (.tmp 5), .some 30)), (none, (.bin .add (.tmp 30) (.const (.int .i64 1)), .some 31)), (none, (.mov (.tmp 31), .some 5))] [])))))) (.seq
  (.reg [(none, (.mov (.tmp 3), .some 39)), (none, (.call (.func 43) [.tmp 39], .some 40)), (none, (.mov (.tmp 40), .some 38)), (none, (.ext (.tmp 38) 0, .some 41)), (none, (.ext (.tmp 38) 1, .some 42)), (none, (.mov (.tmp 41), .some 6)), (none, (.mov (.tmp 42), .some 7))] []) (.seq
  (.reg [(none, (.mov (.tmp 7), .some 43)), (none, (.bin .eql (.tmp 43) (.const (.int .i64 0)), .some 44)), (none, (.mov (.tmp 44), .some 45)), (.some (45, .true), (.mov (.tmp 6), .some 46)), (.some (45, .true), (.mov (.tmp 0), .some 47)), (.some (45, .true), (.call (.func 21) [.tmp 46, .tmp 47], .some 48)), (none, (.pick (.tmp 45) (.tmp 48) (.const (.bool .false)), .some 49)), (none, (.mov (.tmp 49), .some 50)), (.some (50, .true), (.call (.func 37) [], .some 51)), (none, (.pick (.tmp 50) (.tmp 51) (.const (.bool .false)), .some 52)), (none, (.mov (.tmp 52), .some 2))] []) .ret))))))
theorem b11 : Try.f11.body.bind (compC Try.prog) = some c11 := by kernel_rfl
theorem r11 : compR Try.prog Try.f11 = .some [.tmp 2] := by kernel_rfl
theorem n11 : (Try.f11.name == "runtime.NumGoroutine") = false := by kernel_rfl
def c15 : C := .seq
  (.reg [(none, (.mov (.const (.bool .false)), .some 6))] []) (.seq (.seq
  (.reg [(none, (.mov (.tmp 0), .some 15)), (none, (.len .false (.tmp 15), .some 16)), (none, (.bin .gtr (.tmp 16) (.const (.int .i64 300)), .some 17))] []) (.cond (.tmp 17) (.seq
  (.reg [(none, (.call (.func 27) [], .some 18)), (none, (.mov (.tmp 18), .some 6))] []) .ret) .skip)) (.seq
  (.reg [(none, (.mov (.tmp 0), .some 20)), (none, (.mov (.tmp 1), .some 21)), (none, (.mov (.tmp 2), .some 22)), (none, (.call (.func 67) [.tmp 20, .tmp 21, .tmp 22], .some 23)), (none, (.mov (.tmp 23), .some 19)), (none, (.ext (.tmp 19) 0, .some 24)), (none, (.ext (.tmp 19) 1, .some 25)), (none, (.mov (.tmp 24), .some 7)), (none, (.mov (.tmp 25), .some 8))] []) (.seq
  (.reg [(none, (.mov (.tmp 0), .some 26)), (none, (.mov (.tmp 1), .some 27)), (none, (.mov (.tmp 2), .some 28)), (none, (.call (.func 68) [.tmp 26, .tmp 27, .tmp 28], .some 29)), (none, (.mov (.tmp 29), .some 9))] []) (.seq (.seq
  (.reg [(none, (.mov (.tmp 8), .some 30)), (none, (.mov (.tmp 9), .some 31)), (none, (.bin .geq (.tmp 31) (.const (.int .i64 0)), .some 32)), (none, (.eqb .true (.tmp 30) (.tmp 32), .some 33)), (none, (.mov (.tmp 33), .some 34)), (.some (34, .false), (.mov (.tmp 7), .some 35)), (.some (34, .false), (.mov (.tmp 9), .some 36)), (.some (34, .false), (.mx .true (.tmp 36) (.const (.int .i64 0)), .some 37)), (.some (34, .false), (.bin .neq (.tmp 35) (.tmp 37), .some 38)), (none, (.pick (.tmp 34) (.const (.bool .true)) (.tmp 38), .some 39))] []) (.cond (.tmp 39) (.seq
  (.reg [(none, (.mov (.const (.bool .false)), .some 6))] []) .ret) .skip)) (.seq
  (.reg [(none, (.mov (.tmp 0), .some 40)), (none, (.mov (.tmp 2), .some 41)), (none, (.call (.func 69) [.tmp 40, .tmp 41], .some 42)), (none, (.mov (.tmp 42), .some 10))] []) (.seq
  (.reg [(none, (.mov (.const (.int .i64 0)), .some 11))] []) (.seq (.seq
  (.reg [(none, (.mov (.const (.int .i64 0)), .some 12))] []) (.block 0 (.loop (.seq (.seq
  (.reg [(none, (.mov (.tmp 12), .some 43)), (none, (.mov (.tmp 10), .some 44)), (none, (.len .false (.tmp 44), .some 45)), (none, (.bin .lss (.tmp 43) (.tmp 45), .some 46))] []) (.cond (.tmp 46) .skip (.exit 0))) (.seq (.block 1 (.seq (.seq
  (.reg [(none, (.mov (.tmp 10), .some 49)), (none, (.mov (.tmp 12), .some 50)), (none, (.iadr 1 (.tmp 49) (.tmp 50), .some 51)), (none, (.load none (.tmp 51), .some 52)), (none, (.mov (.tmp 0), .some 53)), (none, (.mov (.tmp 11), .some 54)), (none, (.mov (.tmp 2), .some 55)), (none, (.call (.func 68) [.tmp 53, .tmp 54, .tmp 55], .some 56)), (none, (.bin .neq (.tmp 52) (.tmp 56), .some 57))] [(3, 7)]) (.cond (.tmp 57) (.seq
  (.reg [(none, (.mov (.const (.bool .false)), .some 6))] []) .ret) .skip)) (.seq
  (.reg [(none, (.mov (.tmp 0), .some 59)), (none, (.mov (.tmp 10), .some 60)), (none, (.mov (.tmp 12), .some 61)), (none, (.iadr 1 (.tmp 60) (.tmp 61), .some 62)), (none, (.load none (.tmp 62), .some 63)), (none, (.slice 1 (.tmp 59) (.some (.tmp 63)) none none, .some 64)), (none, (.build [.slice none 0 0, .int .i64 0, .int .i64 0, .int .i64 0] [(0, (1, .tmp 64))], .some 65)), (none, (.mov (.tmp 2), .some 66)), (none, (.call (.func 64) [.tmp 65, .tmp 66], .some 67)), (none, (.mov (.tmp 67), .some 58)), (none, (.ext (.tmp 58) 0, .some 68)), (none, (.ext (.tmp 58) 1, .some 69)), (none, (.new [.slice none 0 0, .int .i64 0, .int .i64 0, .int .i64 0], .some 13)), (none, (.store 4 (.tmp 13) (.tmp 68), none)), (none, (.mov (.tmp 69), .some 14))] [])
  (.reg [(none, (.mov (.tmp 10), .some 70)), (none, (.mov (.tmp 12), .some 71)), (none, (.iadr 1 (.tmp 70) (.tmp 71), .some 72)), (none, (.load none (.tmp 72), .some 73)), (none, (.fadr 1 (.tmp 13), .some 74)), (none, (.load none (.tmp 74), .some 75)), (none, (.bin .add (.tmp 73) (.tmp 75), .some 76)), (none, (.mov (.tmp 76), .some 11))] [(3, 5)]))))
  (.reg [(none, (.mov (.tmp 12), .some 47)), (none, (.bin .add (.tmp 47) (.const (.int .i64 1)), .some 48)), (none, (.mov (.tmp 48), .some 12))] [])))))) (.seq
  (.reg [(none, (.mov (.tmp 0), .some 77)), (none, (.mov (.tmp 11), .some 78)), (none, (.mov (.tmp 2), .some 79)), (none, (.call (.func 68) [.tmp 77, .tmp 78, .tmp 79], .some 80)), (none, (.bin .lss (.tmp 80) (.const (.int .i64 0)), .some 81)), (none, (.mov (.tmp 81), .some 82)), (.some (82, .true), (.call (.func 27) [], .some 83)), (none, (.pick (.tmp 82) (.tmp 83) (.const (.bool .false)), .some 84)), (none, (.mov (.tmp 84), .some 6))] []) .ret))))))))
theorem b15 : Try.f15.body.bind (compC Try.prog) = some c15 := by kernel_rfl
theorem r15 : compR Try.prog Try.f15 = .some [.tmp 6] := by kernel_rfl
theorem n15 : (Try.f15.name == "runtime.NumGoroutine") = false := by kernel_rfl
def c19 : C := .seq
  (.reg [(none, (.mov (.const (.slice none 0 0)), .some 4)), (none, (.new [.int .i64 0, .int .i64 0], .some 5))] []) (.seq
  (.reg [(none, (.mov (.const (.slice none 0 0)), .some 6))] []) (.seq (.seq
  (.reg [(none, (.mov (.tmp 0), .some 10)), (none, (.len .false (.tmp 10), .some 11)), (none, (.mov (.const (.int .i64 0)), .some 12))] []) (.block 0 (.loop (.seq
  (.reg [(none, (.bin .lss (.tmp 12) (.tmp 11), .some 13))] []) (.seq (.cond (.tmp 13) .skip (.exit 0)) (.seq (.block 1 (.seq
  (.reg [(none, (.mov (.tmp 12), .some 14)), (none, (.iadr 3 (.tmp 10) (.tmp 12), .some 15)), (none, (.load (.some 3) (.tmp 15), .some 16)), (none, (.new [.slice none 0 0, .int .i64 0, .int .i64 0], .some 8)), (none, (.mov (.tmp 14), .some 7)), (none, (.store 3 (.tmp 8) (.tmp 16), none))] []) (.seq (.seq
  (.reg [(none, (.load (.some 3) (.tmp 8), .some 17)), (none, (.mov (.tmp 6), .some 18)), (none, (.len .false (.tmp 18), .some 19)), (none, (.mov (.tmp 1), .some 20)), (none, (.call (.func 70) [.tmp 17, .tmp 19, .tmp 20], .some 21)), (none, (.mov (.tmp 21), .some 9))] []) (.seq
  (.reg [(none, (.mov (.tmp 9), .some 22)), (none, (.bin .neq (.tmp 22) (.const (.int .i64 0)), .some 23))] []) (.cond (.tmp 23) (.seq
  (.reg [(none, (.mov (.tmp 9), .some 24)), (none, (.mov (.tmp 7), .some 25)), (none, (.call (.func 71) [.tmp 24, .tmp 25], .some 26)), (none, (.mov (.const (.slice none 0 0)), .some 4)), (none, (.store 2 (.tmp 5) (.tmp 26), none))] []) .ret) .skip))) (.seq
  (.reg [(none, (.mov (.tmp 6), .some 27)), (none, (.fadr 0 (.tmp 8), .some 28)), (none, (.load none (.tmp 28), .some 29)), (none, (.app 1 1 (.tmp 27) (.tmp 29), .some 30)), (none, (.mov (.tmp 30), .some 6))] [])
  (.reg [(none, (.mov (.tmp 6), .some 31)), (none, (.fadr 1 (.tmp 8), .some 32)), (none, (.load none (.tmp 32), .some 33)), (none, (.fadr 2 (.tmp 8), .some 34)), (none, (.load none (.tmp 34), .some 35)), (none, (.call (.func 72) [.tmp 31, .tmp 33, .tmp 35], .some 36)), (none, (.mov (.tmp 36), .some 6))] [])))))
  (.reg [(none, (.bin .add (.tmp 12) (.const (.int .i64 1)), .some 37)), (none, (.mov (.tmp 37), .some 12))] []))))))) (.seq
  (.reg [(none, (.mov (.tmp 6), .some 38)), (none, (.build [.int .i64 0, .int .i64 0] [], .some 39)), (none, (.mov (.tmp 38), .some 4)), (none, (.store 2 (.tmp 5) (.tmp 39), none))] []) .ret)))
theorem b19 : Try.f19.body.bind (compC Try.prog) = some c19 := by kernel_rfl
theorem r19 : compR Try.prog Try.f19 = .some [.tmp 4, .cell 5 (.some 2)] := by kernel_rfl
theorem n19 : (Try.f19.name == "runtime.NumGoroutine") = false := by kernel_rfl
def c22 : C := .seq
  (.reg [(none, (.box (.tmp 0), .some 1)), (none, (.mov (.const (.int .i64 0)), .some 2))] []) (.seq (.seq
  (.reg [(none, (.load (.some 3) (.tmp 1), .some 3)), (none, (.call (.func 25) [.tmp 3], .some 4))] []) (.cond (.tmp 4) (.seq
  (.reg [(none, (.fadr 0 (.tmp 1), .some 5)), (none, (.load none (.tmp 5), .some 6)), (none, (.len .false (.tmp 6), .some 7)), (none, (.mov (.tmp 7), .some 2))] []) .ret) .skip)) (.seq (.seq
  (.reg [(none, (.load (.some 3) (.tmp 1), .some 8)), (none, (.call (.func 26) [.tmp 8], .some 9))] []) (.cond (.tmp 9) (.seq
  (.reg [(none, (.fadr 2 (.tmp 1), .some 10)), (none, (.load none (.tmp 10), .some 11)), (none, (.mov (.tmp 11), .some 2))] []) .ret) .skip)) (.seq
  (.reg [(none, (.mov (.const (.int .i64 0)), .some 2))] []) .ret)))
theorem b22 : Try.f22.body.bind (compC Try.prog) = some c22 := by kernel_rfl
theorem r22 : compR Try.prog Try.f22 = .some [.tmp 2] := by kernel_rfl
theorem n22 : (Try.f22.name == "runtime.NumGoroutine") = false := by kernel_rfl
def c23 : C := .seq
  (.reg [(none, (.mov (.const (.slice none 0 0)), .some 2)), (none, (.mov (.const (.bool .false)), .some 3))] []) (.seq (.seq
  (.reg [(none, (.mov (.tmp 0), .some 8)), (none, (.call (.func 75) [.tmp 8], .some 9)), (none, (.un .not (.tmp 9), .some 10))] []) (.cond (.tmp 10) (.seq
  (.reg [(none, (.mov (.const (.slice none 0 0)), .some 2)), (none, (.mov (.const (.bool .false)), .some 3))] []) .ret) .skip)) (.seq
  (.reg [(none, (.mov (.const (.slice none 0 0)), .some 4))] []) (.seq (.seq
  (.reg [(none, (.mov (.tmp 0), .some 11)), (none, (.len .false (.tmp 11), .some 12)), (none, (.mov (.const (.int .i64 0)), .some 13))] []) (.block 0 (.loop (.seq
  (.reg [(none, (.bin .lss (.tmp 13) (.tmp 12), .some 14))] []) (.seq (.cond (.tmp 14) .skip (.exit 0)) (.seq (.block 1 (.seq
  (.reg [(none, (.mov (.tmp 13), .some 15)), (none, (.iadr 3 (.tmp 11) (.tmp 13), .some 16)), (none, (.load (.some 3) (.tmp 16), .some 17)), (none, (.new [.slice none 0 0, .int .i64 0, .int .i64 0], .some 6)), (none, (.mov (.tmp 15), .some 5)), (none, (.store 3 (.tmp 6) (.tmp 17), none))] []) (.seq (.seq
  (.reg [(none, (.fadr 0 (.tmp 6), .some 18)), (none, (.load none (.tmp 18), .some 19)), (none, (.len .false (.tmp 19), .some 20)), (none, (.mov (.const (.int .i64 0)), .some 21))] []) (.block 2 (.loop (.seq
  (.reg [(none, (.bin .lss (.tmp 21) (.tmp 20), .some 22))] []) (.seq (.cond (.tmp 22) .skip (.exit 2)) (.seq (.block 3 (.seq
  (.reg [(none, (.mov (.tmp 21), .some 23)), (none, (.mov (.tmp 23), .some 7))] [])
  (.reg [(none, (.mov (.tmp 4), .some 24)), (none, (.mov (.tmp 5), .some 25)), (none, (.mov (.tmp 7), .some 26)), (none, (.build [.int .i64 0, .int .i64 0] [(0, (1, .tmp 25)), (1, (1, .tmp 26))], .some 27)), (none, (.bsl 2 [.tmp 27], .some 28)), (none, (.app 2 16 (.tmp 24) (.tmp 28), .some 29)), (none, (.mov (.tmp 29), .some 4))] [])))
  (.reg [(none, (.bin .add (.tmp 21) (.const (.int .i64 1)), .some 30)), (none, (.mov (.tmp 30), .some 21))] []))))))) (.seq
  (.reg [(none, (.fadr 2 (.tmp 6), .some 31)), (none, (.load none (.tmp 31), .some 32)), (none, (.mov (.const (.int .i64 0)), .some 33))] []) (.block 4 (.loop (.seq
  (.reg [(none, (.bin .lss (.tmp 33) (.tmp 32), .some 34))] []) (.seq (.cond (.tmp 34) .skip (.exit 4)) (.seq (.block 5
  (.reg [(none, (.mov (.tmp 4), .some 35)), (none, (.mov (.tmp 4), .some 36)), (none, (.mov (.tmp 4), .some 37)), (none, (.len .false (.tmp 37), .some 38)), (none, (.fadr 1 (.tmp 6), .some 39)), (none, (.load none (.tmp 39), .some 40)), (none, (.bin .sub (.tmp 38) (.tmp 40), .some 41)), (none, (.iadr 2 (.tmp 36) (.tmp 41), .some 42)), (none, (.load (.some 2) (.tmp 42), .some 43)), (none, (.bsl 2 [.tmp 43], .some 44)), (none, (.app 2 16 (.tmp 35) (.tmp 44), .some 45)), (none, (.mov (.tmp 45), .some 4))] []))
  (.reg [(none, (.bin .add (.tmp 33) (.const (.int .i64 1)), .some 46)), (none, (.mov (.tmp 46), .some 33))] []))))))))))
  (.reg [(none, (.bin .add (.tmp 13) (.const (.int .i64 1)), .some 47)), (none, (.mov (.tmp 47), .some 13))] []))))))) (.seq
  (.reg [(none, (.mov (.tmp 4), .some 48)), (none, (.mov (.tmp 48), .some 2)), (none, (.mov (.const (.bool .true)), .some 3))] []) .ret))))
theorem b23 : Try.f23.body.bind (compC Try.prog) = some c23 := by kernel_rfl
theorem r23 : compR Try.prog Try.f23 = .some [.tmp 2, .tmp 3] := by kernel_rfl
theorem n23 : (Try.f23.name == "runtime.NumGoroutine") = false := by kernel_rfl
def c25 : C := .seq
  (.reg [(none, (.box (.tmp 0), .some 1)), (none, (.mov (.const (.bool .false)), .some 2))] []) (.seq
  (.reg [(none, (.fadr 1 (.tmp 1), .some 3)), (none, (.load none (.tmp 3), .some 4)), (none, (.bin .eql (.tmp 4) (.const (.int .i64 0)), .some 5)), (none, (.mov (.tmp 5), .some 6)), (.some (6, .true), (.fadr 2 (.tmp 1), .some 7)), (.some (6, .true), (.load none (.tmp 7), .some 8)), (.some (6, .true), (.bin .eql (.tmp 8) (.const (.int .i64 0)), .some 9)), (none, (.pick (.tmp 6) (.tmp 9) (.const (.bool .false)), .some 10)), (none, (.mov (.tmp 10), .some 11)), (.some (11, .true), (.fadr 0 (.tmp 1), .some 12)), (.some (11, .true), (.load none (.tmp 12), .some 13)), (.some (11, .true), (.len .false (.tmp 13), .some 14)), (.some (11, .true), (.bin .geq (.tmp 14) (.const (.int .i64 1)), .some 15)), (none, (.pick (.tmp 11) (.tmp 15) (.const (.bool .false)), .some 16)), (none, (.mov (.tmp 16), .some 17)), (.some (17, .true), (.fadr 0 (.tmp 1), .some 18)), (.some (17, .true), (.load none (.tmp 18), .some 19)), (.some (17, .true), (.len .false (.tmp 19), .some 20)), (.some (17, .true), (.bin .leq (.tmp 20) (.const (.int .i64 1048576)), .some 21)), (none, (.pick (.tmp 17) (.tmp 21) (.const (.bool .false)), .some 22)), (none, (.mov (.tmp 22), .some 2))] []) .ret)
theorem b25 : Try.f25.body.bind (compC Try.prog) = some c25 := by kernel_rfl
theorem r25 : compR Try.prog Try.f25 = .some [.tmp 2] := by kernel_rfl
theorem n25 : (Try.f25.name == "runtime.NumGoroutine") = false := by kernel_rfl
def c31 : C := .seq (.seq
  (.reg [(none, (.mov (.tmp 1), .some 4)), (none, (.len .false (.tmp 4), .some 5)), (none, (.bin .gtr (.tmp 5) (.const (.int .i64 2097152)), .some 6))] []) (.cond (.tmp 6) (.seq
  (.reg [(none, (.mov (.tmp 0), .some 7)), (none, (.call (.func 78) [.tmp 7, .const (.int .i64 2)], .some 8))] []) .ret) .skip)) (.seq
  (.reg [(none, (.mov (.tmp 0), .some 9)), (none, (.mov (.tmp 1), .some 10)), (none, (.call (.func 79) [.tmp 9, .tmp 10], .some 11))] [])
  (.reg [(none, (.mov (.tmp 0), .some 12)), (none, (.mov (.tmp 1), .some 13)), (none, (.call (.func 81) [.tmp 13], .some 14)), (none, (.cvt .u64 (.tmp 14), .some 15)), (none, (.call (.func 80) [.tmp 12, .tmp 15, .const (.int .i64 4)], .some 16))] []))
theorem b31 : Try.f31.body.bind (compC Try.prog) = some c31 := by kernel_rfl
theorem r31 : compR Try.prog Try.f31 = .some [] := by kernel_rfl
theorem n31 : (Try.f31.name == "runtime.NumGoroutine") = false := by kernel_rfl
def c41 : C := .seq
  (.reg [(none, (.box (.tmp 1), .some 3))] []) (.block 0 (.seq
  (.reg [(none, (.load (.some 3) (.tmp 3), .some 19)), (none, (.call (.func 38) [.tmp 19], .some 20)), (none, (.un .not (.tmp 20), .some 21)), (none, (.mov (.tmp 21), .some 18))] []) (.cond (.tmp 18)
  (.reg [(none, (.mov (.tmp 0), .some 22)), (none, (.call (.func 78) [.tmp 22, .const (.int .i64 3)], .some 23))] []) (.seq
  (.reg [(none, (.fadr 1 (.tmp 3), .some 25)), (none, (.load none (.tmp 25), .some 26)), (none, (.bin .eql (.tmp 26) (.const (.int .i64 0)), .some 27)), (none, (.mov (.tmp 27), .some 24))] []) (.cond (.tmp 24) (.seq
  (.reg [(none, (.mov (.tmp 0), .some 28)), (none, (.fadr 0 (.tmp 3), .some 29)), (none, (.load none (.tmp 29), .some 30)), (none, (.len .false (.tmp 30), .some 31)), (none, (.bin .sub (.tmp 31) (.const (.int .i64 1)), .some 32)), (none, (.cvt .u64 (.tmp 32), .some 33)), (none, (.bin .mul (.tmp 33) (.const (.int .u64 2)), .some 34)), (none, (.call (.func 86) [.tmp 28, .tmp 34], .some 35))] [])
  (.reg [(none, (.mov (.tmp 0), .some 36)), (none, (.fadr 0 (.tmp 3), .some 37)), (none, (.load none (.tmp 37), .some 38)), (none, (.call (.func 30) [.tmp 36, .tmp 38], .some 39))] [])) (.seq
  (.reg [(none, (.mov (.tmp 0), .some 4)), (none, (.fadr 2 (.tmp 3), .some 5)), (none, (.load none (.tmp 5), .some 6)), (none, (.bin .sub (.tmp 6) (.const (.int .i64 4)), .some 7)), (none, (.cvt .u64 (.tmp 7), .some 8)), (none, (.bin .mul (.tmp 8) (.const (.int .u64 2)), .some 9)), (none, (.bin .add (.tmp 9) (.const (.int .u64 1)), .some 10)), (none, (.call (.func 86) [.tmp 4, .tmp 10], .some 11))] [])
  (.reg [(none, (.mov (.tmp 0), .some 12)), (none, (.fadr 1 (.tmp 3), .some 13)), (none, (.load none (.tmp 13), .some 14)), (none, (.bin .sub (.tmp 14) (.const (.int .i64 1)), .some 15)), (none, (.cvt .u64 (.tmp 15), .some 16)), (none, (.call (.func 86) [.tmp 12, .tmp 16], .some 17))] [])))))))
theorem b41 : Try.f41.body.bind (compC Try.prog) = some c41 := by kernel_rfl
theorem r41 : compR Try.prog Try.f41 = .some [] := by kernel_rfl
theorem n41 : (Try.f41.name == "runtime.NumGoroutine") = false := by kernel_rfl
def c43 : C := .seq
  (.reg [(none, (.mov (.const (.slice none 0 0)), .some 2)), (none, (.mov (.const (.int .i64 0)), .some 3))] []) (.seq
  (.reg [(none, (.mov (.tmp 0), .some 7)), (none, (.call (.func 87) [.tmp 7], .some 8)), (none, (.call (.func 29) [.tmp 8], .some 9)), (none, (.mov (.tmp 9), .some 4))] []) (.seq (.seq
  (.reg [(none, (.mov (.tmp 0), .some 10)), (none, (.len .false (.tmp 10), .some 11)), (none, (.mov (.const (.int .i64 0)), .some 12))] []) (.block 0 (.loop (.seq
  (.reg [(none, (.bin .lss (.tmp 12) (.tmp 11), .some 13))] []) (.seq (.cond (.tmp 13) .skip (.exit 0)) (.seq (.block 1 (.seq
  (.reg [(none, (.iadr 3 (.tmp 10) (.tmp 12), .some 14)), (none, (.load (.some 3) (.tmp 14), .some 15)), (none, (.new [.slice none 0 0, .int .i64 0, .int .i64 0], .some 6)), (none, (.store 3 (.tmp 6) (.tmp 15), none))] [])
  (.reg [(none, (.mov (.tmp 4), .some 16)), (none, (.load (.some 3) (.tmp 6), .some 17)), (none, (.call (.func 41) [.tmp 16, .tmp 17], .some 18))] [])))
  (.reg [(none, (.bin .add (.tmp 12) (.const (.int .i64 1)), .some 19)), (none, (.mov (.tmp 19), .some 12))] []))))))) (.seq
  (.reg [(none, (.mov (.tmp 4), .some 20)), (none, (.call (.func 32) [.tmp 20], .some 21)), (none, (.ext (.tmp 21) 0, .some 22)), (none, (.ext (.tmp 21) 1, .some 23)), (none, (.mov (.tmp 22), .some 2)), (none, (.mov (.tmp 23), .some 3))] []) .ret)))
theorem b43 : Try.f43.body.bind (compC Try.prog) = some c43 := by kernel_rfl
theorem r43 : compR Try.prog Try.f43 = .some [.tmp 2, .tmp 3] := by kernel_rfl
theorem n43 : (Try.f43.name == "runtime.NumGoroutine") = false := by kernel_rfl
def c60 : C := .seq
  (.reg [(none, (.mov (.const (.bool .false)), .some 2))] []) (.seq
  (.reg [(none, (.mov (.tmp 0), .some 3)), (none, (.eqp .true (.tmp 3) (.const (.pointer none)), .some 4)), (none, (.mov (.tmp 4), .some 5)), (.some (5, .true), (.mov (.tmp 0), .some 6)), (.some (5, .true), (.nilc (.tmp 6), .some 7)), (.some (5, .true), (.fadr 2 (.tmp 7), .some 8)), (.some (5, .true), (.load (.some 2) (.tmp 8), .some 9)), (.some (5, .true), (.call (.func 94) [.tmp 9], .some 10)), (none, (.pick (.tmp 5) (.tmp 10) (.const (.bool .false)), .some 11)), (none, (.mov (.tmp 11), .some 2))] []) .ret)
theorem b60 : Try.f60.body.bind (compC Try.prog) = some c60 := by kernel_rfl
theorem r60 : compR Try.prog Try.f60 = .some [.tmp 2] := by kernel_rfl
theorem n60 : (Try.f60.name == "runtime.NumGoroutine") = false := by kernel_rfl
def c61 : C := .seq
  (.reg [(none, (.mov (.const (.slice none 0 0)), .some 4)), (none, (.mov (.const (.int .i64 0)), .some 5)), (none, (.new [.int .i64 0, .int .i64 0], .some 6))] []) (.seq
  (.reg [(none, (.mov (.tmp 0), .some 10)), (none, (.call (.func 53) [.tmp 10], .some 11)), (none, (.mov (.tmp 11), .some 7))] []) (.seq
  (.reg [(none, (.mov (.tmp 7), .some 12)), (none, (.mov (.tmp 1), .some 13)), (none, (.call (.func 63) [.tmp 12, .tmp 13], .some 14)), (none, (.mov (.tmp 14), .some 8))] []) (.seq (.seq
  (.reg [(none, (.mov (.tmp 7), .some 15)), (none, (.call (.func 56) [.tmp 15], .some 16)), (none, (.new [.int .i64 0, .int .i64 0], .some 9)), (none, (.store 2 (.tmp 9) (.tmp 16), none))] []) (.seq
  (.reg [(none, (.load (.some 2) (.tmp 9), .some 17)), (none, (.call (.func 94) [.tmp 17], .some 18)), (none, (.un .not (.tmp 18), .some 19))] []) (.cond (.tmp 19) (.seq
  (.reg [(none, (.load (.some 2) (.tmp 9), .some 20)), (none, (.mov (.const (.slice none 0 0)), .some 4)), (none, (.mov (.const (.int .i64 0)), .some 5)), (none, (.store 2 (.tmp 6) (.tmp 20), none))] []) .ret) .skip))) (.seq
  (.reg [(none, (.mov (.tmp 8), .some 21)), (none, (.mov (.tmp 7), .some 22)), (none, (.call (.func 57) [.tmp 22], .some 23)), (none, (.build [.int .i64 0, .int .i64 0] [], .some 24)), (none, (.mov (.tmp 21), .some 4)), (none, (.mov (.tmp 23), .some 5)), (none, (.store 2 (.tmp 6) (.tmp 24), none))] []) .ret))))
theorem b61 : Try.f61.body.bind (compC Try.prog) = some c61 := by kernel_rfl
theorem r61 : compR Try.prog Try.f61 = .some [.tmp 4, .tmp 5, .cell 6 (.some 2)] := by kernel_rfl
theorem n61 : (Try.f61.name == "runtime.NumGoroutine") = false := by kernel_rfl
def c64 : C := .seq
  (.reg [(none, (.box (.tmp 0), .some 2)), (none, (.new [.slice none 0 0, .int .i64 0, .int .i64 0, .int .i64 0], .some 4)), (none, (.mov (.const (.slice none 0 0)), .some 5))] []) (.seq (.seq
  (.reg [(none, (.mov (.tmp 1), .some 10)), (none, (.bin .gtr (.tmp 10) (.const (.int .i64 2097152)), .some 11))] []) (.cond (.tmp 11)
  (.reg [(none, (.mov (.const (.int .i64 2097152)), .some 1))] []) .skip)) (.seq
  (.reg [(none, (.load (.some 4) (.tmp 2), .some 13)), (none, (.mov (.tmp 1), .some 14)), (none, (.call (.func 104) [.tmp 13, .tmp 14], .some 15)), (none, (.mov (.tmp 15), .some 12)), (none, (.ext (.tmp 12) 0, .some 16)), (none, (.ext (.tmp 12) 1, .some 17)), (none, (.new [.slice none 0 0, .int .i64 0, .int .i64 0, .int .i64 0], .some 6)), (none, (.store 4 (.tmp 6) (.tmp 16), none)), (none, (.mov (.tmp 17), .some 7))] []) (.seq
  (.reg [(none, (.load (.some 4) (.tmp 6), .some 19)), (none, (.call (.func 105) [.tmp 19, .const (.int .i64 4)], .some 20)), (none, (.mov (.tmp 20), .some 18)), (none, (.ext (.tmp 18) 0, .some 21)), (none, (.ext (.tmp 18) 1, .some 22)), (none, (.new [.slice none 0 0, .int .i64 0, .int .i64 0, .int .i64 0], .some 8)), (none, (.store 4 (.tmp 8) (.tmp 21), none)), (none, (.mov (.tmp 22), .some 9))] []) (.seq (.seq
  (.reg [(none, (.fadr 2 (.tmp 8), .some 23)), (none, (.fadr 0 (.tmp 23), .some 24)), (none, (.load none (.tmp 24), .some 25)), (none, (.bin .eql (.tmp 25) (.const (.int .i64 0)), .some 26)), (none, (.mov (.tmp 26), .some 27)), (.some (27, .true), (.mov (.tmp 9), .some 28)), (.some (27, .true), (.mov (.tmp 7), .some 29)), (.some (27, .true), (.call (.func 84) [.tmp 29], .some 30)), (.some (27, .true), (.cvt .u64 (.tmp 30), .some 31)), (.some (27, .true), (.bin .neq (.tmp 28) (.tmp 31), .some 32)), (none, (.pick (.tmp 27) (.tmp 32) (.const (.bool .false)), .some 33))] []) (.cond (.tmp 33)
  (.reg [(none, (.load (.some 4) (.tmp 8), .some 34)), (none, (.fadr 1 (.tmp 6), .some 35)), (none, (.load none (.tmp 35), .some 36)), (none, (.call (.func 97) [.tmp 34, .const (.int .i64 6), .tmp 36], .some 37)), (none, (.store 4 (.tmp 8) (.tmp 37), none))] []) .skip)) (.seq (.seq
  (.reg [(none, (.fadr 2 (.tmp 8), .some 38)), (none, (.fadr 0 (.tmp 38), .some 39)), (none, (.load none (.tmp 39), .some 40)), (none, (.bin .neq (.tmp 40) (.const (.int .i64 0)), .some 41))] []) (.cond (.tmp 41) (.seq
  (.reg [(none, (.load (.some 4) (.tmp 8), .some 42)), (none, (.store 4 (.tmp 4) (.tmp 42), none)), (none, (.mov (.const (.slice none 0 0)), .some 5))] []) .ret) .skip)) (.seq
  (.reg [(none, (.load (.some 4) (.tmp 8), .some 43)), (none, (.mov (.tmp 7), .some 44)), (none, (.store 4 (.tmp 4) (.tmp 43), none)), (none, (.mov (.tmp 44), .some 5))] []) .ret))))))
theorem b64 : Try.f64.body.bind (compC Try.prog) = some c64 := by kernel_rfl
theorem r64 : compR Try.prog Try.f64 = .some [.cell 4 (.some 4), .tmp 5] := by kernel_rfl
theorem n64 : (Try.f64.name == "runtime.NumGoroutine") = false := by kernel_rfl
def c66 : C := .seq
  (.reg [(none, (.mov (.const (.int .i64 0)), .some 4))] []) (.seq (.seq
  (.reg [(none, (.mov (.tmp 1), .some 7)), (none, (.bin .gtr (.tmp 7) (.const (.int .i64 2097152)), .some 8))] []) (.cond (.tmp 8)
  (.reg [(none, (.mov (.const (.int .i64 2097152)), .some 1))] []) .skip)) (.seq
  (.reg [(none, (.mov (.tmp 0), .some 10)), (none, (.build [.slice none 0 0, .int .i64 0, .int .i64 0, .int .i64 0] [(0, (1, .tmp 10))], .some 11)), (none, (.mov (.tmp 1), .some 12)), (none, (.call (.func 107) [.tmp 11, .tmp 12], .some 13)), (none, (.mov (.tmp 13), .some 9)), (none, (.ext (.tmp 9) 0, .some 14)), (none, (.ext (.tmp 9) 1, .some 15)), (none, (.new [.slice none 0 0, .int .i64 0, .int .i64 0, .int .i64 0], .some 5)), (none, (.store 4 (.tmp 5) (.tmp 14), none)), (none, (.mov (.tmp 15), .some 6))] []) (.seq (.seq
  (.reg [(none, (.fadr 2 (.tmp 5), .some 16)), (none, (.fadr 0 (.tmp 16), .some 17)), (none, (.load none (.tmp 17), .some 18)), (none, (.bin .neq (.tmp 18) (.const (.int .i64 0)), .some 19))] []) (.cond (.tmp 19) (.seq
  (.reg [(none, (.mov (.const (.int .i64 0)), .some 4))] []) .ret) .skip)) (.seq
  (.reg [(none, (.mov (.tmp 6), .some 20)), (none, (.cvt .u64 (.tmp 20), .some 21)), (none, (.call (.func 33) [.tmp 21], .some 22)), (none, (.len .false (.tmp 22), .some 23)), (none, (.mov (.tmp 6), .some 24)), (none, (.bin .add (.tmp 23) (.tmp 24), .some 25)), (none, (.bin .add (.tmp 25) (.const (.int .i64 4)), .some 26)), (none, (.mov (.tmp 26), .some 4))] []) .ret))))
theorem b66 : Try.f66.body.bind (compC Try.prog) = some c66 := by kernel_rfl
theorem r66 : compR Try.prog Try.f66 = .some [.tmp 4] := by kernel_rfl
theorem n66 : (Try.f66.name == "runtime.NumGoroutine") = false := by kernel_rfl
def c73 : C := .seq
  (.reg [(none, (.new [.int .i64 0, .int .i64 0], .some 4))] []) (.seq
  (.reg [(none, (.build [.int .i64 0, .int .i64 0] [], .some 6)), (none, (.new [.int .i64 0, .int .i64 0], .some 5)), (none, (.store 2 (.tmp 5) (.tmp 6), none))] []) (.seq (.seq
  (.reg [(none, (.mov (.tmp 0), .some 7)), (none, (.bin .neq (.tmp 7) (.const (.int .i64 0)), .some 8))] []) (.cond (.tmp 8)
  (.reg [(none, (.mov (.tmp 0), .some 9)), (none, (.mov (.tmp 1), .some 10)), (none, (.fadr 0 (.tmp 5), .some 11)), (none, (.store 1 (.tmp 11) (.tmp 9), none)), (none, (.fadr 1 (.tmp 5), .some 12)), (none, (.store 1 (.tmp 12) (.tmp 10), none))] []) .skip)) (.seq
  (.reg [(none, (.load (.some 2) (.tmp 5), .some 13)), (none, (.store 2 (.tmp 4) (.tmp 13), none))] []) .ret)))
theorem b73 : Try.f73.body.bind (compC Try.prog) = some c73 := by kernel_rfl
theorem r73 : compR Try.prog Try.f73 = .some [.cell 4 (.some 2)] := by kernel_rfl
theorem n73 : (Try.f73.name == "runtime.NumGoroutine") = false := by kernel_rfl
def c74 : C := .seq
  (.reg [(none, (.box (.tmp 1), .some 3)), (none, (.mov (.const (.slice none 0 0)), .some 4))] []) (.seq
  (.reg [(none, (.mov (.const (.slice none 0 0)), .some 5))] []) (.seq
  (.reg [(none, (.mov (.tmp 5), .some 7)), (none, (.mov (.tmp 0), .some 8)), (none, (.app 1 1 (.tmp 7) (.tmp 8), .some 9)), (none, (.mov (.tmp 9), .some 5))] []) (.seq
  (.reg [(none, (.mov (.tmp 5), .some 10)), (none, (.fadr 0 (.tmp 3), .some 11)), (none, (.load none (.tmp 11), .some 12)), (none, (.app 1 1 (.tmp 10) (.tmp 12), .some 13)), (none, (.mov (.tmp 13), .some 5))] []) (.seq (.seq
  (.reg [(none, (.mov (.const (.int .i64 0)), .some 6))] []) (.block 0 (.loop (.seq (.seq
  (.reg [(none, (.mov (.tmp 6), .some 14)), (none, (.fadr 2 (.tmp 3), .some 15)), (none, (.load none (.tmp 15), .some 16)), (none, (.bin .lss (.tmp 14) (.tmp 16), .some 17))] []) (.cond (.tmp 17) .skip (.exit 0))) (.seq (.block 1
  (.reg [(none, (.mov (.tmp 5), .some 20)), (none, (.mov (.tmp 5), .some 21)), (none, (.mov (.tmp 0), .some 22)), (none, (.len .false (.tmp 22), .some 23)), (none, (.mov (.tmp 6), .some 24)), (none, (.bin .add (.tmp 23) (.tmp 24), .some 25)), (none, (.fadr 1 (.tmp 3), .some 26)), (none, (.load none (.tmp 26), .some 27)), (none, (.bin .sub (.tmp 25) (.tmp 27), .some 28)), (none, (.iadr 1 (.tmp 21) (.tmp 28), .some 29)), (none, (.load none (.tmp 29), .some 30)), (none, (.bsl 1 [.tmp 30], .some 31)), (none, (.app 1 1 (.tmp 20) (.tmp 31), .some 32)), (none, (.mov (.tmp 32), .some 5))] []))
  (.reg [(none, (.mov (.tmp 6), .some 18)), (none, (.bin .add (.tmp 18) (.const (.int .i64 1)), .some 19)), (none, (.mov (.tmp 19), .some 6))] [])))))) (.seq
  (.reg [(none, (.mov (.tmp 5), .some 33)), (none, (.mov (.tmp 33), .some 4))] []) .ret)))))
theorem b74 : Try.f74.body.bind (compC Try.prog) = some c74 := by kernel_rfl
theorem r74 : compR Try.prog Try.f74 = .some [.tmp 4] := by kernel_rfl
theorem n74 : (Try.f74.name == "runtime.NumGoroutine") = false := by kernel_rfl
def c79 : C := .seq
  (.reg [(none, (.mov (.tmp 0), .some 4)), (none, (.mov (.tmp 1), .some 5)), (none, (.len .false (.tmp 5), .some 6)), (none, (.cvt .u64 (.tmp 6), .some 7)), (none, (.call (.func 86) [.tmp 4, .tmp 7], .some 8))] [])
  (.reg [(none, (.mov (.tmp 0), .some 9)), (none, (.mov (.tmp 1), .some 10)), (none, (.call (.func 30) [.tmp 9, .tmp 10], .some 11))] [])
theorem b79 : Try.f79.body.bind (compC Try.prog) = some c79 := by kernel_rfl
theorem r79 : compR Try.prog Try.f79 = .some [] := by kernel_rfl
theorem n79 : (Try.f79.name == "runtime.NumGoroutine") = false := by kernel_rfl
def c80 : C := .reg [(none, (.mov (.tmp 0), .some 6)), (none, (.mov (.tmp 1), .some 7)), (none, (.mov (.tmp 2), .some 8)), (none, (.call (.func 108) [.tmp 7, .tmp 8], .some 9)), (none, (.call (.func 30) [.tmp 6, .tmp 9], .some 10))] []
theorem b80 : Try.f80.body.bind (compC Try.prog) = some c80 := by kernel_rfl
theorem r80 : compR Try.prog Try.f80 = .some [] := by kernel_rfl
theorem n80 : (Try.f80.name == "runtime.NumGoroutine") = false := by kernel_rfl
def c85 : C := .seq
  (.reg [(none, (.mov (.const (.int .i64 0)), .some 2))] []) (.seq
  (.reg [(none, (.mov (.tmp 0), .some 3)), (none, (.mx .true (.tmp 3) (.const (.int .i64 0)), .some 4)), (none, (.mov (.tmp 4), .some 0))] []) (.seq
  (.reg [(none, (.mov (.tmp 0), .some 5)), (none, (.cvt .u64 (.tmp 5), .some 6)), (none, (.call (.func 113) [.tmp 6], .some 7)), (none, (.mov (.tmp 0), .some 8)), (none, (.bin .add (.tmp 7) (.tmp 8), .some 9)), (none, (.mov (.tmp 9), .some 2))] []) .ret))
theorem b85 : Try.f85.body.bind (compC Try.prog) = some c85 := by kernel_rfl
theorem r85 : compR Try.prog Try.f85 = .some [.tmp 2] := by kernel_rfl
theorem n85 : (Try.f85.name == "runtime.NumGoroutine") = false := by kernel_rfl
def c89 : C := .seq
  (.reg [(none, (.box (.tmp 0), .some 2)), (none, (.box (.tmp 1), .some 3)), (none, (.mov (.const (.bool .false)), .some 4))] []) (.seq
  (.reg [(none, (.fadr 1 (.tmp 2), .some 5)), (none, (.load none (.tmp 5), .some 6)), (none, (.fadr 1 (.tmp 3), .some 7)), (none, (.load none (.tmp 7), .some 8)), (none, (.bin .eql (.tmp 6) (.tmp 8), .some 9)), (none, (.mov (.tmp 9), .some 10)), (.some (10, .true), (.fadr 2 (.tmp 2), .some 11)), (.some (10, .true), (.load none (.tmp 11), .some 12)), (.some (10, .true), (.fadr 2 (.tmp 3), .some 13)), (.some (10, .true), (.load none (.tmp 13), .some 14)), (.some (10, .true), (.bin .eql (.tmp 12) (.tmp 14), .some 15)), (none, (.pick (.tmp 10) (.tmp 15) (.const (.bool .false)), .some 16)), (none, (.mov (.tmp 16), .some 17)), (.some (17, .true), (.fadr 0 (.tmp 2), .some 18)), (.some (17, .true), (.load none (.tmp 18), .some 19)), (.some (17, .true), (.fadr 0 (.tmp 3), .some 20)), (.some (17, .true), (.load none (.tmp 20), .some 21)), (.some (17, .true), (.call (.func 90) [.tmp 19, .tmp 21], .some 22)), (none, (.pick (.tmp 17) (.tmp 22) (.const (.bool .false)), .some 23)), (none, (.mov (.tmp 23), .some 4))] []) .ret)
theorem b89 : Try.f89.body.bind (compC Try.prog) = some c89 := by kernel_rfl
theorem r89 : compR Try.prog Try.f89 = .some [.tmp 4] := by kernel_rfl
theorem n89 : (Try.f89.name == "runtime.NumGoroutine") = false := by kernel_rfl
def c90 : C := .seq
  (.reg [(none, (.mov (.const (.bool .false)), .some 4))] []) (.seq
  (.reg [(none, (.mov (.tmp 0), .some 5)), (none, (.b2s (.tmp 5), .some 6)), (none, (.mov (.tmp 1), .some 7)), (none, (.b2s (.tmp 7), .some 8)), (none, (.bin .eql (.tmp 6) (.tmp 8), .some 9)), (none, (.mov (.tmp 9), .some 4))] []) .ret)
theorem b90 : Try.f90.body.bind (compC Try.prog) = some c90 := by kernel_rfl
theorem r90 : compR Try.prog Try.f90 = .some [.tmp 4] := by kernel_rfl
theorem n90 : (Try.f90.name == "runtime.NumGoroutine") = false := by kernel_rfl
def c100 : C := .seq
  (.reg [(none, (.mov (.const (.slice none 0 0)), .some 4))] []) (.seq
  (.reg [(none, (.mov (.tmp 0), .some 6)), (none, (.mov (.tmp 1), .some 7)), (none, (.call (.func 106) [.tmp 6, .tmp 7], .some 8)), (none, (.mov (.tmp 8), .some 5))] []) (.seq
  (.reg [(none, (.mov (.tmp 0), .some 9)), (none, (.mov (.tmp 5), .some 10)), (none, (.call (.func 93) [.tmp 9, .tmp 10], .some 11)), (none, (.mov (.tmp 11), .some 4))] []) .ret))
theorem b100 : Try.f100.body.bind (compC Try.prog) = some c100 := by kernel_rfl
theorem r100 : compR Try.prog Try.f100 = .some [.tmp 4] := by kernel_rfl
theorem n100 : (Try.f100.name == "runtime.NumGoroutine") = false := by kernel_rfl
def c101 : C := .seq
  (.reg [(none, (.mov (.const (.int .i64 0)), .some 2))] []) (.seq
  (.reg [(none, (.mov (.tmp 0), .some 3)), (none, (.mx .false (.tmp 3) (.const (.int .i64 2097152)), .some 4)), (none, (.mov (.tmp 4), .some 2))] []) .ret)
theorem b101 : Try.f101.body.bind (compC Try.prog) = some c101 := by kernel_rfl
theorem r101 : compR Try.prog Try.f101 = .some [.tmp 2] := by kernel_rfl
theorem n101 : (Try.f101.name == "runtime.NumGoroutine") = false := by kernel_rfl
def c106 : C := .seq
  (.reg [(none, (.mov (.const (.int .i64 0)), .some 4))] []) (.seq (.seq
  (.reg [(none, (.mov (.tmp 1), .some 6)), (none, (.bin .geq (.tmp 6) (.const (.int .i64 0)), .some 7))] []) (.cond (.tmp 7) (.seq
  (.reg [(none, (.mov (.tmp 0), .some 8)), (none, (.mov (.tmp 1), .some 9)), (none, (.cvt .u64 (.tmp 9), .some 10)), (none, (.call (.func 118) [.tmp 8, .tmp 10], .some 11)), (none, (.cvt .i64 (.tmp 11), .some 12)), (none, (.mov (.tmp 12), .some 4))] []) .ret) .skip)) (.seq
  (.reg [(none, (.mov (.tmp 0), .some 13)), (none, (.call (.func 57) [.tmp 13], .some 14)), (none, (.mov (.tmp 14), .some 5))] []) (.seq
  (.reg [(none, (.mov (.tmp 0), .some 15)), (none, (.call (.func 99) [.tmp 15], .some 16))] []) (.seq
  (.reg [(none, (.mov (.tmp 0), .some 17)), (none, (.mov (.tmp 5), .some 18)), (none, (.call (.func 92) [.tmp 17, .const (.int .i64 2), .tmp 18], .some 19))] []) (.seq
  (.reg [(none, (.mov (.const (.int .i64 0)), .some 4))] []) .ret)))))
theorem b106 : Try.f106.body.bind (compC Try.prog) = some c106 := by kernel_rfl
theorem r106 : compR Try.prog Try.f106 = .some [.tmp 4] := by kernel_rfl
theorem n106 : (Try.f106.name == "runtime.NumGoroutine") = false := by kernel_rfl
def c107 : C := .seq
  (.reg [(none, (.box (.tmp 0), .some 2)), (none, (.new [.slice none 0 0, .int .i64 0, .int .i64 0, .int .i64 0], .some 4)), (none, (.mov (.const (.int .i64 0)), .some 5))] []) (.seq (.seq
  (.reg [(none, (.mov (.tmp 1), .some 10)), (none, (.bin .geq (.tmp 10) (.const (.int .i64 0)), .some 11))] []) (.cond (.tmp 11) (.seq
  (.reg [(none, (.load (.some 4) (.tmp 2), .some 13)), (none, (.mov (.tmp 1), .some 14)), (none, (.cvt .u64 (.tmp 14), .some 15)), (none, (.call (.func 119) [.tmp 13, .tmp 15], .some 16)), (none, (.mov (.tmp 16), .some 12)), (none, (.ext (.tmp 12) 0, .some 17)), (none, (.ext (.tmp 12) 1, .some 18)), (none, (.new [.slice none 0 0, .int .i64 0, .int .i64 0, .int .i64 0], .some 6)), (none, (.store 4 (.tmp 6) (.tmp 17), none)), (none, (.mov (.tmp 18), .some 7))] []) (.seq
  (.reg [(none, (.load (.some 4) (.tmp 6), .some 19)), (none, (.mov (.tmp 7), .some 20)), (none, (.cvt .i64 (.tmp 20), .some 21)), (none, (.store 4 (.tmp 4) (.tmp 19), none)), (none, (.mov (.tmp 21), .some 5))] []) .ret)) .skip)) (.seq
  (.reg [(none, (.load (.some 4) (.tmp 2), .some 23)), (none, (.call (.func 95) [.tmp 23], .some 24)), (none, (.mov (.tmp 24), .some 22)), (none, (.ext (.tmp 22) 0, .some 25)), (none, (.ext (.tmp 22) 1, .some 26)), (none, (.new [.slice none 0 0, .int .i64 0, .int .i64 0, .int .i64 0], .some 8)), (none, (.store 4 (.tmp 8) (.tmp 25), none)), (none, (.mov (.tmp 26), .some 9))] []) (.seq
  (.reg [(none, (.load (.some 4) (.tmp 8), .some 27)), (none, (.fadr 1 (.tmp 2), .some 28)), (none, (.load none (.tmp 28), .some 29)), (none, (.call (.func 97) [.tmp 27, .const (.int .i64 2), .tmp 29], .some 30)), (none, (.store 4 (.tmp 4) (.tmp 30), none)), (none, (.mov (.const (.int .i64 0)), .some 5))] []) .ret)))
theorem b107 : Try.f107.body.bind (compC Try.prog) = some c107 := by kernel_rfl
theorem r107 : compR Try.prog Try.f107 = .some [.cell 4 (.some 4), .tmp 5] := by kernel_rfl
theorem n107 : (Try.f107.name == "runtime.NumGoroutine") = false := by kernel_rfl
def c110 : C := .seq
  (.reg [(none, (.mov (.const (.int .u32 0)), .some 4))] []) (.seq
  (.reg [(none, (.call (.func 120) [], .some 8)), (none, (.new [.int .u32 0, .int .u32 0, .int .u32 0, .int .u32 0, .int .u32 0, .int .u32 0, .int .u32 0, .int .u32 0, .int .u32 0, .int .u32 0, .int .u32 0, .int .u32 0, .int .u32 0, .int .u32 0, .int .u32 0, .int .u32 0], .some 5)), (none, (.store 16 (.tmp 5) (.tmp 8), none))] []) (.seq (.seq
  (.reg [(none, (.mov (.tmp 1), .some 9)), (none, (.len .false (.tmp 9), .some 10)), (none, (.mov (.const (.int .i64 0)), .some 11))] []) (.block 0 (.loop (.seq
  (.reg [(none, (.bin .lss (.tmp 11) (.tmp 10), .some 12))] []) (.seq (.cond (.tmp 12) .skip (.exit 0)) (.seq (.block 1 (.seq
  (.reg [(none, (.iadr 1 (.tmp 9) (.tmp 11), .some 13)), (none, (.load none (.tmp 13), .some 14)), (none, (.mov (.tmp 14), .some 7))] []) (.seq
  (.reg [(none, (.mov (.tmp 0), .some 15)), (none, (.mov (.tmp 7), .some 16)), (none, (.cvt .u32 (.tmp 16), .some 17)), (none, (.bin .xor (.tmp 15) (.tmp 17), .some 18)), (none, (.mov (.tmp 18), .some 0))] []) (.seq
  (.reg [(none, (.mov (.tmp 0), .some 19)), (none, (.bin .shr (.tmp 19) (.const (.int .u64 4)), .some 20)), (none, (.mov (.tmp 0), .some 21)), (none, (.bin .and (.tmp 21) (.const (.int .u32 15)), .some 22)), (none, (.aadr 16 1 (.tmp 5) (.tmp 22), .some 23)), (none, (.load none (.tmp 23), .some 24)), (none, (.bin .xor (.tmp 20) (.tmp 24), .some 25)), (none, (.mov (.tmp 25), .some 0))] [])
  (.reg [(none, (.mov (.tmp 0), .some 26)), (none, (.bin .shr (.tmp 26) (.const (.int .u64 4)), .some 27)), (none, (.mov (.tmp 0), .some 28)), (none, (.bin .and (.tmp 28) (.const (.int .u32 15)), .some 29)), (none, (.aadr 16 1 (.tmp 5) (.tmp 29), .some 30)), (none, (.load none (.tmp 30), .some 31)), (none, (.bin .xor (.tmp 27) (.tmp 31), .some 32)), (none, (.mov (.tmp 32), .some 0))] [])))))
  (.reg [(none, (.bin .add (.tmp 11) (.const (.int .i64 1)), .some 33)), (none, (.mov (.tmp 33), .some 11))] []))))))) (.seq
  (.reg [(none, (.mov (.tmp 0), .some 34)), (none, (.mov (.tmp 34), .some 4))] []) .ret)))
theorem b110 : Try.f110.body.bind (compC Try.prog) = some c110 := by kernel_rfl
theorem r110 : compR Try.prog Try.f110 = .some [.tmp 4] := by kernel_rfl
theorem n110 : (Try.f110.name == "runtime.NumGoroutine") = false := by kernel_rfl
def c111 : C := .seq
  (.reg [(none, (.mov (.const (.int .u32 0)), .some 0))] []) (.seq
  (.reg [(none, (.mov (.const (.int .u32 4294967295)), .some 0))] []) .ret)
theorem b111 : Try.f111.body.bind (compC Try.prog) = some c111 := by kernel_rfl
theorem r111 : compR Try.prog Try.f111 = .some [.tmp 0] := by kernel_rfl
theorem n111 : (Try.f111.name == "runtime.NumGoroutine") = false := by kernel_rfl
def c112 : C := .seq
  (.reg [(none, (.mov (.const (.int .u32 0)), .some 4))] []) (.seq (.seq
  (.reg [(none, (.mov (.const (.int .i64 0)), .some 5))] []) (.block 0 (.loop (.seq (.seq
  (.reg [(none, (.mov (.tmp 5), .some 6)), (none, (.mov (.tmp 1), .some 7)), (none, (.len .false (.tmp 7), .some 8)), (none, (.bin .lss (.tmp 6) (.tmp 8), .some 9))] []) (.cond (.tmp 9) .skip (.exit 0))) (.seq (.block 1
  (.reg [(none, (.mov (.tmp 0), .some 12)), (none, (.mov (.tmp 1), .some 13)), (none, (.mov (.tmp 5), .some 14)), (none, (.iadr 1 (.tmp 13) (.tmp 14), .some 15)), (none, (.load none (.tmp 15), .some 16)), (none, (.call (.func 121) [.tmp 12, .tmp 16], .some 17)), (none, (.mov (.tmp 17), .some 0))] []))
  (.reg [(none, (.mov (.tmp 5), .some 10)), (none, (.bin .add (.tmp 10) (.const (.int .i64 1)), .some 11)), (none, (.mov (.tmp 11), .some 5))] [])))))) (.seq
  (.reg [(none, (.mov (.tmp 0), .some 18)), (none, (.mov (.tmp 18), .some 4))] []) .ret))
theorem b112 : Try.f112.body.bind (compC Try.prog) = some c112 := by kernel_rfl
theorem r112 : compR Try.prog Try.f112 = .some [.tmp 4] := by kernel_rfl
theorem n112 : (Try.f112.name == "runtime.NumGoroutine") = false := by kernel_rfl
def c114 : C := .seq
  (.reg [(none, (.mov (.const (.slice none 0 0)), .some 2))] []) (.seq
  (.reg [(none, (.mov (.const (.slice none 0 0)), .some 3))] []) (.seq (.block 0 (.loop (.seq (.seq
  (.reg [(none, (.mov (.tmp 0), .some 4)), (none, (.bin .geq (.tmp 4) (.const (.int .u64 128)), .some 5))] []) (.cond (.tmp 5) .skip (.exit 0))) (.block 1 (.seq
  (.reg [(none, (.mov (.tmp 3), .some 6)), (none, (.mov (.tmp 0), .some 7)), (none, (.cvt .u8 (.tmp 7), .some 8)), (none, (.bin .or (.tmp 8) (.const (.int .u8 128)), .some 9)), (none, (.bsl 1 [.tmp 9], .some 10)), (none, (.app 1 1 (.tmp 6) (.tmp 10), .some 11)), (none, (.mov (.tmp 11), .some 3))] [])
  (.reg [(none, (.mov (.tmp 0), .some 12)), (none, (.bin .shr (.tmp 12) (.const (.int .u64 7)), .some 13)), (none, (.mov (.tmp 13), .some 0))] [])))))) (.seq
  (.reg [(none, (.mov (.tmp 3), .some 14)), (none, (.mov (.tmp 0), .some 15)), (none, (.cvt .u8 (.tmp 15), .some 16)), (none, (.bsl 1 [.tmp 16], .some 17)), (none, (.app 1 1 (.tmp 14) (.tmp 17), .some 18)), (none, (.mov (.tmp 18), .some 2))] []) .ret)))
theorem b114 : Try.f114.body.bind (compC Try.prog) = some c114 := by kernel_rfl
theorem r114 : compR Try.prog Try.f114 = .some [.tmp 2] := by kernel_rfl
theorem n114 : (Try.f114.name == "runtime.NumGoroutine") = false := by kernel_rfl
def c116 : C := .seq
  (.reg [(none, (.mov (.const (.int .u64 0)), .some 2)), (none, (.mov (.const (.int .i64 0)), .some 3)), (none, (.new [.int .i64 0, .int .i64 0], .some 4))] []) (.seq (.seq
  (.reg [(none, (.mov (.const (.int .i64 0)), .some 5))] []) (.block 0 (.loop (.seq (.seq
  (.reg [(none, (.mov (.tmp 5), .some 8)), (none, (.mov (.tmp 0), .some 9)), (none, (.len .false (.tmp 9), .some 10)), (none, (.bin .lss (.tmp 8) (.tmp 10), .some 11))] []) (.cond (.tmp 11) .skip (.exit 0))) (.seq (.block 1 (.seq (.seq
  (.reg [(none, (.mov (.tmp 5), .some 14)), (none, (.bin .eql (.tmp 14) (.const (.int .i64 9)), .some 15)), (none, (.mov (.tmp 15), .some 16)), (.some (16, .true), (.mov (.tmp 0), .some 17)), (.some (16, .true), (.mov (.tmp 5), .some 18)), (.some (16, .true), (.iadr 1 (.tmp 17) (.tmp 18), .some 19)), (.some (16, .true), (.load none (.tmp 19), .some 20)), (.some (16, .true), (.bin .gtr (.tmp 20) (.const (.int .u8 1)), .some 21)), (none, (.pick (.tmp 16) (.tmp 21) (.const (.bool .false)), .some 22))] []) (.cond (.tmp 22) (.seq
  (.reg [(none, (.mov (.tmp 5), .some 23)), (none, (.call (.func 73) [.const (.int .i64 5), .tmp 23], .some 24)), (none, (.mov (.const (.int .u64 0)), .some 2)), (none, (.mov (.const (.int .i64 0)), .some 3)), (none, (.store 2 (.tmp 4) (.tmp 24), none))] []) .ret) .skip)) (.seq (.seq
  (.reg [(none, (.mov (.tmp 5), .some 25)), (none, (.bin .gtr (.tmp 25) (.const (.int .i64 0)), .some 26)), (none, (.mov (.tmp 26), .some 27)), (.some (27, .true), (.mov (.tmp 0), .some 28)), (.some (27, .true), (.mov (.tmp 5), .some 29)), (.some (27, .true), (.iadr 1 (.tmp 28) (.tmp 29), .some 30)), (.some (27, .true), (.load none (.tmp 30), .some 31)), (.some (27, .true), (.bin .eql (.tmp 31) (.const (.int .u8 0)), .some 32)), (none, (.pick (.tmp 27) (.tmp 32) (.const (.bool .false)), .some 33))] []) (.cond (.tmp 33) (.seq
  (.reg [(none, (.mov (.tmp 5), .some 34)), (none, (.call (.func 73) [.const (.int .i64 4), .tmp 34], .some 35)), (none, (.mov (.const (.int .u64 0)), .some 2)), (none, (.mov (.const (.int .i64 0)), .some 3)), (none, (.store 2 (.tmp 4) (.tmp 35), none))] []) .ret) .skip)) (.seq
  (.reg [(none, (.mov (.tmp 0), .some 36)), (none, (.mov (.tmp 5), .some 37)), (none, (.iadr 1 (.tmp 36) (.tmp 37), .some 38)), (none, (.load none (.tmp 38), .some 39)), (none, (.bin .lss (.tmp 39) (.const (.int .u8 128)), .some 40))] []) (.cond (.tmp 40) (.seq
  (.reg [(none, (.mov (.const (.int .u64 0)), .some 6))] []) (.seq (.seq
  (.reg [(none, (.mov (.tmp 5), .some 41)), (none, (.mov (.tmp 41), .some 7))] []) (.block 2 (.loop (.seq (.seq
  (.reg [(none, (.mov (.tmp 7), .some 42)), (none, (.bin .geq (.tmp 42) (.const (.int .i64 0)), .some 43))] []) (.cond (.tmp 43) .skip (.exit 2))) (.seq (.block 3
  (.reg [(none, (.mov (.tmp 6), .some 46)), (none, (.bin .mul (.const (.int .u64 128)) (.tmp 46), .some 47)), (none, (.mov (.tmp 0), .some 48)), (none, (.mov (.tmp 7), .some 49)), (none, (.iadr 1 (.tmp 48) (.tmp 49), .some 50)), (none, (.load none (.tmp 50), .some 51)), (none, (.bin .rem (.tmp 51) (.const (.int .u8 128)), .some 52)), (none, (.cvt .u64 (.tmp 52), .some 53)), (none, (.bin .add (.tmp 47) (.tmp 53), .some 54)), (none, (.mov (.tmp 54), .some 6))] []))
  (.reg [(none, (.mov (.tmp 7), .some 44)), (none, (.bin .sub (.tmp 44) (.const (.int .i64 1)), .some 45)), (none, (.mov (.tmp 45), .some 7))] [])))))) (.seq
  (.reg [(none, (.mov (.tmp 6), .some 55)), (none, (.mov (.tmp 5), .some 56)), (none, (.bin .add (.tmp 56) (.const (.int .i64 1)), .some 57)), (none, (.build [.int .i64 0, .int .i64 0] [], .some 58)), (none, (.mov (.tmp 55), .some 2)), (none, (.mov (.tmp 57), .some 3)), (none, (.store 2 (.tmp 4) (.tmp 58), none))] []) .ret))) .skip)))))
  (.reg [(none, (.mov (.tmp 5), .some 12)), (none, (.bin .add (.tmp 12) (.const (.int .i64 1)), .some 13)), (none, (.mov (.tmp 13), .some 5))] [])))))) (.seq
  (.reg [(none, (.mov (.tmp 0), .some 59)), (none, (.len .false (.tmp 59), .some 60)), (none, (.call (.func 73) [.const (.int .i64 1), .tmp 60], .some 61)), (none, (.mov (.const (.int .u64 0)), .some 2)), (none, (.mov (.const (.int .i64 0)), .some 3)), (none, (.store 2 (.tmp 4) (.tmp 61), none))] []) .ret))
theorem b116 : Try.f116.body.bind (compC Try.prog) = some c116 := by kernel_rfl
theorem r116 : compR Try.prog Try.f116 = .some [.tmp 2, .tmp 3, .cell 4 (.some 2)] := by kernel_rfl
theorem n116 : (Try.f116.name == "runtime.NumGoroutine") = false := by kernel_rfl
end Go.Proofs.Ytpjkmidjjodplaa
