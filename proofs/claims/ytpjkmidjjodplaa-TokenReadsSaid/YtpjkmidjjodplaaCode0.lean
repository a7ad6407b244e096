/-
  The codes of the seat's functions over abstract values, each shown to be its function's own (by program: wip/tools/codes.py).
-/
import Derived.Test.YtpjkmidjjodplaaA2
import Derived.Test.YtpjkmidjjodplaaProg
import Derived.KernelRfl
namespace Go.Proofs.Ytpjkmidjjodplaa
def c9 : C := .seq
  (.reg [(none, (.mov (.const (.bool .false)), .some 2))] []) (.seq (.seq
  (.reg [(none, (.mov (.tmp 0), .some 14)), (none, (.len .false (.tmp 14), .some 15)), (none, (.bin .gtr (.tmp 15) (.const (.int .i64 500)), .some 16))] []) (.cond (.tmp 16) (.seq
  (.reg [(none, (.call (.func 37) [], .some 17)), (none, (.mov (.tmp 17), .some 2))] []) .ret) .skip)) (.seq
  (.reg [(none, (.mov (.tmp 0), .some 19)), (none, (.call (.func 51) [.tmp 19], .some 20)), (none, (.mov (.tmp 20), .some 18)), (none, (.ext (.tmp 18) 0, .some 21)), (none, (.ext (.tmp 18) 1, .some 22)), (none, (.new [.int .i64 0, .int .i64 0], .some 4)), (none, (.mov (.tmp 21), .some 3)), (none, (.store 2 (.tmp 4) (.tmp 22), none))] []) (.seq
  (.reg [(none, (.mov (.tmp 0), .some 24)), (none, (.call (.func 52) [.tmp 24], .some 25)), (none, (.mov (.tmp 25), .some 23)), (none, (.ext (.tmp 23) 0, .some 26)), (none, (.ext (.tmp 23) 1, .some 27)), (none, (.new [.int .i64 0, .int .i64 0], .some 6)), (none, (.mov (.tmp 26), .some 5)), (none, (.store 2 (.tmp 6) (.tmp 27), none))] []) (.seq
  (.reg [(none, (.mov (.tmp 0), .some 28)), (none, (.call (.func 53) [.tmp 28], .some 29)), (none, (.mov (.tmp 29), .some 7))] []) (.seq
  (.reg [(none, (.mov (.tmp 7), .some 30)), (none, (.call (.func 54) [.tmp 30], .some 31)), (none, (.new [.slice none 0 0, .int .i64 0, .int .i64 0], .some 8)), (none, (.store 3 (.tmp 8) (.tmp 31), none))] []) (.seq
  (.reg [(none, (.mov (.tmp 0), .some 33)), (none, (.build [.slice none 0 0, .int .i64 0, .int .i64 0, .int .i64 0] [(0, (1, .tmp 33))], .some 34)), (none, (.call (.func 55) [.tmp 34], .some 35)), (none, (.mov (.tmp 35), .some 32)), (none, (.ext (.tmp 32) 0, .some 36)), (none, (.ext (.tmp 32) 1, .some 37)), (none, (.new [.slice none 0 0, .int .i64 0, .int .i64 0, .int .i64 0], .some 9)), (none, (.new [.slice none 0 0, .int .i64 0, .int .i64 0], .some 10)), (none, (.store 4 (.tmp 9) (.tmp 36), none)), (none, (.store 3 (.tmp 10) (.tmp 37), none))] []) (.seq (.seq
  (.reg [(none, (.mov (.tmp 3), .some 38)), (none, (.mov (.tmp 5), .some 39)), (none, (.call (.func 46) [.tmp 38, .tmp 39], .some 40)), (none, (.un .not (.tmp 40), .some 41)), (none, (.mov (.tmp 41), .some 42)), (.some (42, .false), (.load (.some 2) (.tmp 4), .some 43)), (.some (42, .false), (.load (.some 2) (.tmp 6), .some 44)), (.some (42, .false), (.eqa .true 2 (.tmp 43) (.tmp 44), .some 45)), (none, (.pick (.tmp 42) (.const (.bool .true)) (.tmp 45), .some 46)), (none, (.mov (.tmp 46), .some 47)), (.some (47, .false), (.load (.some 3) (.tmp 8), .some 48)), (.some (47, .false), (.bsl 3 [.tmp 48], .some 49)), (.some (47, .false), (.load (.some 3) (.tmp 10), .some 50)), (.some (47, .false), (.bsl 3 [.tmp 50], .some 51)), (.some (47, .false), (.call (.func 46) [.tmp 49, .tmp 51], .some 52)), (.some (47, .false), (.un .not (.tmp 52), .some 53)), (none, (.pick (.tmp 47) (.const (.bool .true)) (.tmp 53), .some 54)), (none, (.mov (.tmp 54), .some 55)), (.some (55, .false), (.mov (.tmp 7), .some 56)), (.some (55, .false), (.call (.func 56) [.tmp 56], .some 57)), (.some (55, .false), (.fadr 2 (.tmp 9), .some 58)), (.some (55, .false), (.load (.some 2) (.tmp 58), .some 59)), (.some (55, .false), (.eqa .true 2 (.tmp 57) (.tmp 59), .some 60)), (none, (.pick (.tmp 55) (.const (.bool .true)) (.tmp 60), .some 61)), (none, (.mov (.tmp 61), .some 62)), (.some (62, .false), (.fadr 2 (.tmp 9), .some 63)), (.some (62, .false), (.fadr 0 (.tmp 63), .some 64)), (.some (62, .false), (.load none (.tmp 64), .some 65)), (.some (62, .false), (.bin .eql (.tmp 65) (.const (.int .i64 0)), .some 66)), (.some (62, .false), (.mov (.tmp 66), .some 67)), (.some (67, .true), (.mov (.tmp 7), .some 68)), (.some (67, .true), (.call (.func 57) [.tmp 68], .some 69)), (.some (67, .true), (.fadr 1 (.tmp 9), .some 70)), (.some (67, .true), (.load none (.tmp 70), .some 71)), (.some (67, .true), (.bin .neq (.tmp 69) (.tmp 71), .some 72)), (.some (62, .false), (.pick (.tmp 67) (.tmp 72) (.const (.bool .false)), .some 73)), (none, (.pick (.tmp 62) (.const (.bool .true)) (.tmp 73), .some 74))] [(5, 6), (10, 12), (19, 21), (31, 33)]) (.cond (.tmp 74) (.seq
  (.reg [(none, (.mov (.const (.bool .false)), .some 2))] []) .ret) .skip)) (.seq
  (.reg [(none, (.mov (.tmp 0), .some 75)), (none, (.call (.func 53) [.tmp 75], .some 76)), (none, (.mov (.tmp 76), .some 11))] []) (.seq
  (.reg [(none, (.mov (.tmp 11), .some 78)), (none, (.call (.func 58) [.tmp 78], .some 79)), (none, (.mov (.tmp 79), .some 77)), (none, (.ext (.tmp 77) 0, .some 80)), (none, (.ext (.tmp 77) 1, .some 81)), (none, (.mov (.tmp 80), .some 12)), (none, (.mov (.tmp 81), .some 13))] []) (.seq (.seq
  (.reg [(none, (.fadr 2 (.tmp 9), .some 82)), (none, (.fadr 0 (.tmp 82), .some 83)), (none, (.load none (.tmp 83), .some 84)), (none, (.bin .eql (.tmp 84) (.const (.int .i64 0)), .some 85))] []) (.cond (.tmp 85) (.seq (.seq
  (.reg [(none, (.mov (.tmp 12), .some 86)), (none, (.mov (.tmp 86), .some 87)), (.some (87, .true), (.mov (.tmp 11), .some 88)), (.some (87, .true), (.call (.func 59) [.tmp 88], .some 89)), (.some (87, .true), (.fadr 1 (.tmp 10), .some 90)), (.some (87, .true), (.load none (.tmp 90), .some 91)), (.some (87, .true), (.bin .neq (.tmp 89) (.tmp 91), .some 92)), (none, (.pick (.tmp 87) (.tmp 92) (.const (.bool .false)), .some 93))] [(3, 5)]) (.cond (.tmp 93) (.seq
  (.reg [(none, (.mov (.const (.bool .false)), .some 2))] []) .ret) .skip)) (.seq
  (.reg [(none, (.mov (.tmp 13), .some 94)), (none, (.load (.some 3) (.tmp 10), .some 95)), (none, (.call (.func 22) [.tmp 95], .some 96)), (none, (.bin .eql (.tmp 94) (.tmp 96), .some 97)), (none, (.mov (.tmp 97), .some 98)), (.some (98, .true), (.mov (.tmp 12), .some 99)), (.some (98, .true), (.load (.some 3) (.tmp 10), .some 100)), (.some (98, .true), (.call (.func 26) [.tmp 100], .some 101)), (.some (98, .true), (.eqb .false (.tmp 99) (.tmp 101), .some 102)), (none, (.pick (.tmp 98) (.tmp 102) (.const (.bool .false)), .some 103)), (none, (.mov (.tmp 103), .some 104)), (.some (104, .true), (.mov (.tmp 11), .some 105)), (.some (104, .true), (.call (.func 60) [.tmp 105], .some 106)), (none, (.pick (.tmp 104) (.tmp 106) (.const (.bool .false)), .some 107)), (none, (.mov (.tmp 107), .some 108)), (.some (108, .true), (.call (.func 37) [], .some 109)), (none, (.pick (.tmp 108) (.tmp 109) (.const (.bool .false)), .some 110)), (none, (.mov (.tmp 110), .some 2))] []) .ret)) .skip)) (.seq (.seq
  (.reg [(none, (.mov (.tmp 11), .some 111)), (none, (.call (.func 60) [.tmp 111], .some 112)), (none, (.mov (.tmp 112), .some 113)), (.some (113, .true), (.mov (.tmp 12), .some 114)), (none, (.pick (.tmp 113) (.tmp 114) (.const (.bool .false)), .some 115)), (none, (.mov (.tmp 115), .some 116)), (.some (116, .true), (.mov (.tmp 11), .some 117)), (.some (116, .true), (.call (.func 59) [.tmp 117], .some 118)), (.some (116, .true), (.bin .neq (.tmp 118) (.const (.int .i64 0)), .some 119)), (.some (116, .true), (.mov (.tmp 119), .some 120)), (.some (120, .false), (.mov (.tmp 11), .some 121)), (.some (120, .false), (.call (.func 56) [.tmp 121], .some 122)), (.some (120, .false), (.fadr 2 (.tmp 9), .some 123)), (.some (120, .false), (.load (.some 2) (.tmp 123), .some 124)), (.some (120, .false), (.eqa .true 2 (.tmp 122) (.tmp 124), .some 125)), (.some (116, .true), (.pick (.tmp 120) (.const (.bool .true)) (.tmp 125), .some 126)), (none, (.pick (.tmp 116) (.tmp 126) (.const (.bool .false)), .some 127))] [(11, 13)]) (.cond (.tmp 127) (.seq
  (.reg [(none, (.mov (.const (.bool .false)), .some 2))] []) .ret) .skip)) (.seq (.seq
  (.reg [(none, (.mov (.tmp 11), .some 128)), (none, (.call (.func 56) [.tmp 128], .some 129)), (none, (.fadr 2 (.tmp 9), .some 130)), (none, (.load (.some 2) (.tmp 130), .some 131)), (none, (.eqa .false 2 (.tmp 129) (.tmp 131), .some 132)), (none, (.mov (.tmp 132), .some 133)), (.some (133, .true), (.mov (.tmp 12), .some 134)), (none, (.pick (.tmp 133) (.tmp 134) (.const (.bool .false)), .some 135))] [(1, 3)]) (.cond (.tmp 135) (.seq
  (.reg [(none, (.call (.func 37) [], .some 136)), (none, (.mov (.tmp 136), .some 2))] []) .ret) .skip)) (.seq
  (.reg [(none, (.mov (.tmp 11), .some 137)), (none, (.call (.func 60) [.tmp 137], .some 138)), (none, (.mov (.tmp 138), .some 139)), (.some (139, .false), (.mov (.tmp 13), .some 140)), (.some (139, .false), (.bin .eql (.tmp 140) (.const (.int .i64 0)), .some 141)), (.some (139, .false), (.mov (.tmp 141), .some 142)), (.some (142, .true), (.mov (.tmp 12), .some 143)), (.some (142, .true), (.un .not (.tmp 143), .some 144)), (.some (139, .false), (.pick (.tmp 142) (.tmp 144) (.const (.bool .false)), .some 145)), (.some (139, .false), (.mov (.tmp 145), .some 146)), (.some (146, .true), (.mov (.tmp 11), .some 147)), (.some (146, .true), (.call (.func 56) [.tmp 147], .some 148)), (.some (146, .true), (.fadr 2 (.tmp 9), .some 149)), (.some (146, .true), (.load (.some 2) (.tmp 149), .some 150)), (.some (146, .true), (.eqa .false 2 (.tmp 148) (.tmp 150), .some 151)), (.some (139, .false), (.pick (.tmp 146) (.tmp 151) (.const (.bool .false)), .some 152)), (none, (.pick (.tmp 139) (.const (.bool .true)) (.tmp 152), .some 153)), (none, (.mov (.tmp 153), .some 154)), (.some (154, .true), (.call (.func 37) [], .some 155)), (none, (.pick (.tmp 154) (.tmp 155) (.const (.bool .false)), .some 156)), (none, (.mov (.tmp 156), .some 2))] [(11, 13)]) .ret)))))))))))))
theorem b9 : Try.f9.body.bind (compC Try.prog) = some c9 := by kernel_rfl
theorem r9 : compR Try.prog Try.f9 = .some [.tmp 2] := by kernel_rfl
theorem n9 : (Try.f9.name == "runtime.NumGoroutine") = false := by kernel_rfl
def c22 : C := .seq
  (.reg [(none, (.box (.tmp 0), .some 1)), (none, (.mov (.const (.int .i64 0)), .some 2))] []) (.seq (.seq
  (.reg [(none, (.load (.some 3) (.tmp 1), .some 3)), (none, (.call (.func 25) [.tmp 3], .some 4))] []) (.cond (.tmp 4) (.seq
  (.reg [(none, (.fadr 0 (.tmp 1), .some 5)), (none, (.load none (.tmp 5), .some 6)), (none, (.len .false (.tmp 6), .some 7)), (none, (.mov (.tmp 7), .some 2))] []) .ret) .skip)) (.seq (.seq
  (.reg [(none, (.load (.some 3) (.tmp 1), .some 8)), (none, (.call (.func 26) [.tmp 8], .some 9))] []) (.cond (.tmp 9) (.seq
  (.reg [(none, (.fadr 2 (.tmp 1), .some 10)), (none, (.load none (.tmp 10), .some 11)), (none, (.mov (.tmp 11), .some 2))] []) .ret) .skip)) (.seq
  (.reg [(none, (.mov (.const (.int .i64 0)), .some 2))] []) .ret)))
theorem b22 : Try.f22.body.bind (compC Try.prog) = some c22 := by kernel_rfl
theorem r22 : compR Try.prog Try.f22 = .some [.tmp 2] := by kernel_rfl
theorem n22 : (Try.f22.name == "runtime.NumGoroutine") = false := by kernel_rfl
def c25 : C := .seq
  (.reg [(none, (.box (.tmp 0), .some 1)), (none, (.mov (.const (.bool .false)), .some 2))] []) (.seq
  (.reg [(none, (.fadr 1 (.tmp 1), .some 3)), (none, (.load none (.tmp 3), .some 4)), (none, (.bin .eql (.tmp 4) (.const (.int .i64 0)), .some 5)), (none, (.mov (.tmp 5), .some 6)), (.some (6, .true), (.fadr 2 (.tmp 1), .some 7)), (.some (6, .true), (.load none (.tmp 7), .some 8)), (.some (6, .true), (.bin .eql (.tmp 8) (.const (.int .i64 0)), .some 9)), (none, (.pick (.tmp 6) (.tmp 9) (.const (.bool .false)), .some 10)), (none, (.mov (.tmp 10), .some 11)), (.some (11, .true), (.fadr 0 (.tmp 1), .some 12)), (.some (11, .true), (.load none (.tmp 12), .some 13)), (.some (11, .true), (.len .false (.tmp 13), .some 14)), (.some (11, .true), (.bin .geq (.tmp 14) (.const (.int .i64 1)), .some 15)), (none, (.pick (.tmp 11) (.tmp 15) (.const (.bool .false)), .some 16)), (none, (.mov (.tmp 16), .some 17)), (.some (17, .true), (.fadr 0 (.tmp 1), .some 18)), (.some (17, .true), (.load none (.tmp 18), .some 19)), (.some (17, .true), (.len .false (.tmp 19), .some 20)), (.some (17, .true), (.bin .leq (.tmp 20) (.const (.int .i64 1048576)), .some 21)), (none, (.pick (.tmp 17) (.tmp 21) (.const (.bool .false)), .some 22)), (none, (.mov (.tmp 22), .some 2))] []) .ret)
theorem b25 : Try.f25.body.bind (compC Try.prog) = some c25 := by kernel_rfl
theorem r25 : compR Try.prog Try.f25 = .some [.tmp 2] := by kernel_rfl
theorem n25 : (Try.f25.name == "runtime.NumGoroutine") = false := by kernel_rfl
def c43 : C := .seq
  (.reg [(none, (.mov (.const (.slice none 0 0)), .some 2)), (none, (.mov (.const (.int .i64 0)), .some 3))] []) (.seq
  (.reg [(none, (.mov (.tmp 0), .some 7)), (none, (.call (.func 87) [.tmp 7], .some 8)), (none, (.call (.func 29) [.tmp 8], .some 9)), (none, (.mov (.tmp 9), .some 4))] []) (.seq (.seq
  (.reg [(none, (.mov (.tmp 0), .some 10)), (none, (.len .false (.tmp 10), .some 11)), (none, (.mov (.const (.int .i64 0)), .some 12))] []) (.block 0 (.loop (.seq
  (.reg [(none, (.bin .lss (.tmp 12) (.tmp 11), .some 13))] []) (.seq (.cond (.tmp 13) .skip (.exit 0)) (.seq (.block 1 (.seq
  (.reg [(none, (.iadr 3 (.tmp 10) (.tmp 12), .some 14)), (none, (.load (.some 3) (.tmp 14), .some 15)), (none, (.new [.slice none 0 0, .int .i64 0, .int .i64 0], .some 6)), (none, (.store 3 (.tmp 6) (.tmp 15), none))] [])
  (.reg [(none, (.mov (.tmp 4), .some 16)), (none, (.load (.some 3) (.tmp 6), .some 17)), (none, (.call (.func 41) [.tmp 16, .tmp 17], .some 18))] [])))
  (.reg [(none, (.bin .add (.tmp 12) (.const (.int .i64 1)), .some 19)), (none, (.mov (.tmp 19), .some 12))] []))))))) (.seq
  (.reg [(none, (.mov (.tmp 4), .some 20)), (none, (.call (.func 32) [.tmp 20], .some 21)), (none, (.ext (.tmp 21) 0, .some 22)), (none, (.ext (.tmp 21) 1, .some 23)), (none, (.mov (.tmp 22), .some 2)), (none, (.mov (.tmp 23), .some 3))] []) .ret)))
theorem b43 : Try.f43.body.bind (compC Try.prog) = some c43 := by kernel_rfl
theorem r43 : compR Try.prog Try.f43 = .some [.tmp 2, .tmp 3] := by kernel_rfl
theorem n43 : (Try.f43.name == "runtime.NumGoroutine") = false := by kernel_rfl
def c57 : C := .seq
  (.reg [(none, (.mov (.const (.int .i64 0)), .some 2))] []) (.seq (.seq
  (.reg [(none, (.mov (.tmp 0), .some 3)), (none, (.eqp .false (.tmp 3) (.const (.pointer none)), .some 4))] []) (.cond (.tmp 4) (.seq
  (.reg [(none, (.mov (.const (.int .i64 0)), .some 2))] []) .ret) .skip)) (.seq
  (.reg [(none, (.mov (.tmp 0), .some 5)), (none, (.nilc (.tmp 5), .some 6)), (none, (.fadr 1 (.tmp 6), .some 7)), (none, (.load none (.tmp 7), .some 8)), (none, (.mov (.tmp 8), .some 2))] []) .ret))
theorem b57 : Try.f57.body.bind (compC Try.prog) = some c57 := by kernel_rfl
theorem r57 : compR Try.prog Try.f57 = .some [.tmp 2] := by kernel_rfl
theorem n57 : (Try.f57.name == "runtime.NumGoroutine") = false := by kernel_rfl
def c78 : C := .seq
  (.reg [(none, (.mov (.tmp 0), .some 4)), (none, (.call (.func 76) [.tmp 4], .some 5)), (none, (.bin .eql (.tmp 5) (.const (.int .i64 0)), .some 6))] []) (.cond (.tmp 6)
  (.reg [(none, (.mov (.tmp 0), .some 7)), (none, (.mov (.tmp 1), .some 8)), (none, (.nilc (.tmp 7), .some 9)), (none, (.fadr 2 (.tmp 9), .some 10)), (none, (.store 1 (.tmp 10) (.tmp 8), none))] []) .skip)
theorem b78 : Try.f78.body.bind (compC Try.prog) = some c78 := by kernel_rfl
theorem r78 : compR Try.prog Try.f78 = .some [] := by kernel_rfl
theorem n78 : (Try.f78.name == "runtime.NumGoroutine") = false := by kernel_rfl
def c97 : C := .seq
  (.reg [(none, (.box (.tmp 0), .some 3)), (none, (.new [.slice none 0 0, .int .i64 0, .int .i64 0, .int .i64 0], .some 6))] []) (.seq (.seq
  (.reg [(none, (.fadr 2 (.tmp 3), .some 7)), (none, (.fadr 0 (.tmp 7), .some 8)), (none, (.load none (.tmp 8), .some 9)), (none, (.bin .eql (.tmp 9) (.const (.int .i64 0)), .some 10))] []) (.cond (.tmp 10)
  (.reg [(none, (.mov (.tmp 1), .some 11)), (none, (.mov (.tmp 2), .some 12)), (none, (.call (.func 73) [.tmp 11, .tmp 12], .some 13)), (none, (.fadr 2 (.tmp 3), .some 14)), (none, (.store 2 (.tmp 14) (.tmp 13), none))] []) .skip)) (.seq
  (.reg [(none, (.load (.some 4) (.tmp 3), .some 15)), (none, (.store 4 (.tmp 6) (.tmp 15), none))] []) .ret))
theorem b97 : Try.f97.body.bind (compC Try.prog) = some c97 := by kernel_rfl
theorem r97 : compR Try.prog Try.f97 = .some [.cell 6 (.some 4)] := by kernel_rfl
theorem n97 : (Try.f97.name == "runtime.NumGoroutine") = false := by kernel_rfl
def c115 : C := .seq
  (.reg [(none, (.mov (.const (.bool .false)), .some 4))] []) (.seq (.block 0 (.seq
  (.reg [(none, (.mov (.tmp 0), .some 6)), (none, (.call (.func 60) [.tmp 6], .some 7)), (none, (.un .not (.tmp 7), .some 8)), (none, (.mov (.tmp 8), .some 5))] []) (.cond (.tmp 5) (.seq
  (.reg [(none, (.mov (.const (.bool .false)), .some 4))] []) .ret) (.seq
  (.reg [(none, (.mov (.tmp 1), .some 10)), (none, (.bin .lss (.tmp 10) (.const (.int .i64 0)), .some 11)), (none, (.mov (.tmp 11), .some 9))] []) (.cond (.tmp 9) (.seq
  (.reg [(none, (.mov (.tmp 0), .some 12)), (none, (.mov (.tmp 0), .some 13)), (none, (.nilc (.tmp 13), .some 14)), (none, (.fadr 1 (.tmp 14), .some 15)), (none, (.load none (.tmp 15), .some 16)), (none, (.call (.func 92) [.tmp 12, .const (.int .i64 17), .tmp 16], .some 17))] []) (.seq
  (.reg [(none, (.mov (.const (.bool .false)), .some 4))] []) .ret)) (.seq
  (.reg [(none, (.mov (.tmp 1), .some 19)), (none, (.mov (.tmp 0), .some 20)), (none, (.call (.func 91) [.tmp 20], .some 21)), (none, (.bin .gtr (.tmp 19) (.tmp 21), .some 22)), (none, (.mov (.tmp 22), .some 18))] []) (.cond (.tmp 18) (.seq
  (.reg [(none, (.mov (.tmp 0), .some 23)), (none, (.mov (.tmp 0), .some 24)), (none, (.nilc (.tmp 24), .some 25)), (none, (.fadr 0 (.tmp 25), .some 26)), (none, (.load none (.tmp 26), .some 27)), (none, (.len .false (.tmp 27), .some 28)), (none, (.call (.func 92) [.tmp 23, .const (.int .i64 1), .tmp 28], .some 29))] []) (.seq
  (.reg [(none, (.mov (.const (.bool .false)), .some 4))] []) .ret)) .skip))))))) (.seq
  (.reg [(none, (.mov (.tmp 0), .some 30)), (none, (.nilc (.tmp 30), .some 31)), (none, (.fadr 1 (.tmp 31), .some 32)), (none, (.load none (.tmp 32), .some 33)), (none, (.mov (.tmp 1), .some 34)), (none, (.bin .add (.tmp 33) (.tmp 34), .some 35)), (none, (.nilc (.tmp 30), .some 36)), (none, (.fadr 1 (.tmp 36), .some 37)), (none, (.store 1 (.tmp 37) (.tmp 35), none))] []) (.seq
  (.reg [(none, (.mov (.const (.bool .true)), .some 4))] []) .ret)))
theorem b115 : Try.f115.body.bind (compC Try.prog) = some c115 := by kernel_rfl
theorem r115 : compR Try.prog Try.f115 = .some [.tmp 4] := by kernel_rfl
theorem n115 : (Try.f115.name == "runtime.NumGoroutine") = false := by kernel_rfl
def c117 : C := .seq
  (.reg [(none, (.mov (.const (.int .u8 0)), .some 2))] []) (.seq (.seq
  (.reg [(none, (.mov (.tmp 0), .some 3)), (none, (.call (.func 115) [.tmp 3, .const (.int .i64 1)], .some 4)), (none, (.un .not (.tmp 4), .some 5))] []) (.cond (.tmp 5) (.seq
  (.reg [(none, (.mov (.const (.int .u8 0)), .some 2))] []) .ret) .skip)) (.seq
  (.reg [(none, (.mov (.tmp 0), .some 6)), (none, (.nilc (.tmp 6), .some 7)), (none, (.fadr 0 (.tmp 7), .some 8)), (none, (.load none (.tmp 8), .some 9)), (none, (.mov (.tmp 0), .some 10)), (none, (.nilc (.tmp 10), .some 11)), (none, (.fadr 1 (.tmp 11), .some 12)), (none, (.load none (.tmp 12), .some 13)), (none, (.bin .sub (.tmp 13) (.const (.int .i64 1)), .some 14)), (none, (.iadr 1 (.tmp 9) (.tmp 14), .some 15)), (none, (.load none (.tmp 15), .some 16)), (none, (.mov (.tmp 16), .some 2))] [(3, 7)]) .ret))
theorem b117 : Try.f117.body.bind (compC Try.prog) = some c117 := by kernel_rfl
theorem r117 : compR Try.prog Try.f117 = .some [.tmp 2] := by kernel_rfl
theorem n117 : (Try.f117.name == "runtime.NumGoroutine") = false := by kernel_rfl
end Go.Proofs.Ytpjkmidjjodplaa
