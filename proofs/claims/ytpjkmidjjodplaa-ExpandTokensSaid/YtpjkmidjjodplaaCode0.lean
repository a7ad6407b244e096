/-
  The codes of the seat's functions over abstract values, each shown to be its function's own (by program: wip/tools/codes.py).
-/
import Derived.Test.YtpjkmidjjodplaaA2
import Derived.Test.YtpjkmidjjodplaaProg
import Derived.KernelRfl
namespace Go.Proofs.Ytpjkmidjjodplaa
def c3 : C := .seq
  (.reg [(none, (.mov (.const (.bool .false)), .some 4))] []) (.seq (.seq
  (.reg [(none, (.mov (.tmp 0), .some 11)), (none, (.call (.func 17) [.tmp 11], .some 12))] []) (.cond (.tmp 12) (.seq
  (.reg [(none, (.call (.func 18) [], .some 13)), (none, (.mov (.tmp 13), .some 4))] []) .ret) .skip)) (.seq
  (.reg [(none, (.mov (.tmp 1), .some 14)), (none, (.mx .false (.tmp 14) (.const (.int .i64 5000)), .some 15)), (none, (.mov (.tmp 15), .some 1))] []) (.seq
  (.reg [(none, (.mov (.tmp 0), .some 17)), (none, (.mov (.tmp 1), .some 18)), (none, (.call (.func 19) [.tmp 17, .tmp 18], .some 19)), (none, (.mov (.tmp 19), .some 16)), (none, (.ext (.tmp 16) 0, .some 20)), (none, (.ext (.tmp 16) 1, .some 21)), (none, (.new [.int .i64 0, .int .i64 0], .some 6)), (none, (.mov (.tmp 20), .some 5)), (none, (.store 2 (.tmp 6) (.tmp 21), none))] []) (.seq
  (.reg [(none, (.mov (.tmp 0), .some 23)), (none, (.mov (.tmp 1), .some 24)), (none, (.call (.func 20) [.tmp 23, .tmp 24], .some 25)), (none, (.mov (.tmp 25), .some 22)), (none, (.ext (.tmp 22) 0, .some 26)), (none, (.ext (.tmp 22) 1, .some 27)), (none, (.new [.int .i64 0, .int .i64 0], .some 8)), (none, (.mov (.tmp 26), .some 7)), (none, (.store 2 (.tmp 8) (.tmp 27), none))] []) (.seq (.seq
  (.reg [(none, (.mov (.tmp 5), .some 28)), (none, (.mov (.tmp 7), .some 29)), (none, (.call (.func 21) [.tmp 28, .tmp 29], .some 30)), (none, (.un .not (.tmp 30), .some 31)), (none, (.mov (.tmp 31), .some 32)), (.some (32, .false), (.load (.some 2) (.tmp 6), .some 33)), (.some (32, .false), (.load (.some 2) (.tmp 8), .some 34)), (.some (32, .false), (.eqa .true 2 (.tmp 33) (.tmp 34), .some 35)), (none, (.pick (.tmp 32) (.const (.bool .true)) (.tmp 35), .some 36)), (none, (.mov (.tmp 36), .some 37)), (.some (37, .false), (.mov (.tmp 5), .some 38)), (.some (37, .false), (.len .false (.tmp 38), .some 39)), (.some (37, .false), (.mov (.tmp 1), .some 40)), (.some (37, .false), (.mx .true (.tmp 40) (.const (.int .i64 0)), .some 41)), (.some (37, .false), (.bin .gtr (.tmp 39) (.tmp 41), .some 42)), (none, (.pick (.tmp 37) (.const (.bool .true)) (.tmp 42), .some 43))] []) (.cond (.tmp 43) (.seq
  (.reg [(none, (.mov (.const (.bool .false)), .some 4))] []) .ret) .skip)) (.seq (.seq
  (.reg [(none, (.fadr 0 (.tmp 6), .some 44)), (none, (.load none (.tmp 44), .some 45)), (none, (.bin .neq (.tmp 45) (.const (.int .i64 0)), .some 46))] []) (.cond (.tmp 46) (.seq
  (.reg [(none, (.mov (.tmp 5), .some 47)), (none, (.len .false (.tmp 47), .some 48)), (none, (.bin .eql (.tmp 48) (.const (.int .i64 0)), .some 49)), (none, (.mov (.tmp 49), .some 50)), (.some (50, .true), (.call (.func 18) [], .some 51)), (none, (.pick (.tmp 50) (.tmp 51) (.const (.bool .false)), .some 52)), (none, (.mov (.tmp 52), .some 4))] []) .ret) .skip)) (.seq
  (.reg [(none, (.mov (.const (.int .i64 0)), .some 9))] []) (.seq (.seq
  (.reg [(none, (.mov (.const (.int .i64 0)), .some 10))] []) (.block 0 (.loop (.seq (.seq
  (.reg [(none, (.mov (.tmp 10), .some 53)), (none, (.mov (.tmp 0), .some 54)), (none, (.len .false (.tmp 54), .some 55)), (none, (.bin .lss (.tmp 53) (.tmp 55), .some 56))] []) (.cond (.tmp 56) .skip (.exit 0))) (.seq (.block 1
  (.reg [(none, (.mov (.tmp 9), .some 59)), (none, (.mov (.tmp 0), .some 60)), (none, (.mov (.tmp 10), .some 61)), (none, (.iadr 3 (.tmp 60) (.tmp 61), .some 62)), (none, (.load (.some 3) (.tmp 62), .some 63)), (none, (.call (.func 22) [.tmp 63], .some 64)), (none, (.bin .add (.tmp 59) (.tmp 64), .some 65)), (none, (.mov (.tmp 65), .some 9))] []))
  (.reg [(none, (.mov (.tmp 10), .some 57)), (none, (.bin .add (.tmp 57) (.const (.int .i64 1)), .some 58)), (none, (.mov (.tmp 58), .some 10))] [])))))) (.seq
  (.reg [(none, (.mov (.tmp 5), .some 66)), (none, (.len .false (.tmp 66), .some 67)), (none, (.mov (.tmp 9), .some 68)), (none, (.bin .eql (.tmp 67) (.tmp 68), .some 69)), (none, (.mov (.tmp 69), .some 70)), (.some (70, .true), (.call (.func 18) [], .some 71)), (none, (.pick (.tmp 70) (.tmp 71) (.const (.bool .false)), .some 72)), (none, (.mov (.tmp 72), .some 4))] []) .ret)))))))))
theorem b3 : Try.f3.body.bind (compC Try.prog) = some c3 := by kernel_rfl
theorem r3 : compR Try.prog Try.f3 = .some [.tmp 4] := by kernel_rfl
theorem n3 : (Try.f3.name == "runtime.NumGoroutine") = false := by kernel_rfl
def c4 : C := .seq
  (.reg [(none, (.mov (.const (.bool .false)), .some 2))] []) (.seq (.seq
  (.reg [(none, (.mov (.tmp 0), .some 14)), (none, (.call (.func 17) [.tmp 14], .some 15))] []) (.cond (.tmp 15) (.seq
  (.reg [(none, (.call (.func 18) [], .some 16)), (none, (.mov (.tmp 16), .some 2))] []) .ret) .skip)) (.seq
  (.reg [(none, (.mov (.tmp 0), .some 18)), (none, (.call (.func 23) [.tmp 18], .some 19)), (none, (.mov (.tmp 19), .some 17)), (none, (.ext (.tmp 17) 0, .some 20)), (none, (.ext (.tmp 17) 1, .some 21)), (none, (.mov (.tmp 20), .some 3)), (none, (.mov (.tmp 21), .some 4))] []) (.seq
  (.reg [(none, (.mov (.tmp 0), .some 23)), (none, (.call (.func 24) [.tmp 23], .some 24)), (none, (.mov (.tmp 24), .some 22)), (none, (.ext (.tmp 22) 0, .some 25)), (none, (.ext (.tmp 22) 1, .some 26)), (none, (.mov (.tmp 25), .some 5)), (none, (.mov (.tmp 26), .some 6))] []) (.seq
  (.reg [(none, (.mov (.tmp 0), .some 28)), (none, (.call (.func 20) [.tmp 28, .const (.int .i64 5000)], .some 29)), (none, (.mov (.tmp 29), .some 27)), (none, (.ext (.tmp 27) 0, .some 30)), (none, (.ext (.tmp 27) 1, .some 31)), (none, (.new [.int .i64 0, .int .i64 0], .some 8)), (none, (.mov (.tmp 30), .some 7)), (none, (.store 2 (.tmp 8) (.tmp 31), none))] []) (.seq (.seq
  (.reg [(none, (.fadr 0 (.tmp 8), .some 32)), (none, (.load none (.tmp 32), .some 33)), (none, (.bin .eql (.tmp 33) (.const (.int .i64 11)), .some 34))] []) (.cond (.tmp 34) (.seq
  (.reg [(none, (.call (.func 18) [], .some 35)), (none, (.mov (.tmp 35), .some 2))] []) .ret) .skip)) (.seq (.seq
  (.reg [(none, (.fadr 0 (.tmp 8), .some 36)), (none, (.load none (.tmp 36), .some 37)), (none, (.bin .neq (.tmp 37) (.const (.int .i64 0)), .some 38))] []) (.cond (.tmp 38) (.seq
  (.reg [(none, (.mov (.tmp 4), .some 39)), (none, (.un .not (.tmp 39), .some 40)), (none, (.mov (.tmp 40), .some 41)), (.some (41, .true), (.mov (.tmp 6), .some 42)), (.some (41, .true), (.un .not (.tmp 42), .some 43)), (none, (.pick (.tmp 41) (.tmp 43) (.const (.bool .false)), .some 44)), (none, (.mov (.tmp 44), .some 45)), (.some (45, .true), (.mov (.tmp 3), .some 46)), (.some (45, .true), (.len .false (.tmp 46), .some 47)), (.some (45, .true), (.bin .eql (.tmp 47) (.const (.int .i64 0)), .some 48)), (none, (.pick (.tmp 45) (.tmp 48) (.const (.bool .false)), .some 49)), (none, (.mov (.tmp 49), .some 50)), (.some (50, .true), (.mov (.tmp 5), .some 51)), (.some (50, .true), (.len .false (.tmp 51), .some 52)), (.some (50, .true), (.bin .eql (.tmp 52) (.const (.int .i64 0)), .some 53)), (none, (.pick (.tmp 50) (.tmp 53) (.const (.bool .false)), .some 54)), (none, (.mov (.tmp 54), .some 55)), (.some (55, .true), (.call (.func 18) [], .some 56)), (none, (.pick (.tmp 55) (.tmp 56) (.const (.bool .false)), .some 57)), (none, (.mov (.tmp 57), .some 2))] []) .ret) .skip)) (.seq (.seq
  (.reg [(none, (.mov (.tmp 4), .some 58)), (none, (.un .not (.tmp 58), .some 59)), (none, (.mov (.tmp 59), .some 60)), (.some (60, .false), (.mov (.tmp 6), .some 61)), (.some (60, .false), (.un .not (.tmp 61), .some 62)), (none, (.pick (.tmp 60) (.const (.bool .true)) (.tmp 62), .some 63)), (none, (.mov (.tmp 63), .some 64)), (.some (64, .false), (.mov (.tmp 3), .some 65)), (.some (64, .false), (.len .false (.tmp 65), .some 66)), (.some (64, .false), (.mov (.tmp 7), .some 67)), (.some (64, .false), (.len .false (.tmp 67), .some 68)), (.some (64, .false), (.bin .neq (.tmp 66) (.tmp 68), .some 69)), (none, (.pick (.tmp 64) (.const (.bool .true)) (.tmp 69), .some 70)), (none, (.mov (.tmp 70), .some 71)), (.some (71, .false), (.mov (.tmp 5), .some 72)), (.some (71, .false), (.len .false (.tmp 72), .some 73)), (.some (71, .false), (.mov (.tmp 7), .some 74)), (.some (71, .false), (.len .false (.tmp 74), .some 75)), (.some (71, .false), (.bin .neq (.tmp 73) (.tmp 75), .some 76)), (none, (.pick (.tmp 71) (.const (.bool .true)) (.tmp 76), .some 77))] []) (.cond (.tmp 77) (.seq
  (.reg [(none, (.mov (.const (.bool .false)), .some 2))] []) .ret) .skip)) (.seq
  (.reg [(none, (.mov (.const (.int .i64 0)), .some 9))] []) (.seq (.seq
  (.reg [(none, (.mov (.const (.int .i64 0)), .some 10))] []) (.block 0 (.loop (.seq (.seq
  (.reg [(none, (.mov (.tmp 10), .some 78)), (none, (.mov (.tmp 0), .some 79)), (none, (.len .false (.tmp 79), .some 80)), (none, (.bin .lss (.tmp 78) (.tmp 80), .some 81))] []) (.cond (.tmp 81) .skip (.exit 0))) (.seq (.block 1 (.seq
  (.reg [(none, (.mov (.const (.int .i64 0)), .some 11))] []) (.block 2 (.loop (.seq (.seq
  (.reg [(none, (.mov (.tmp 11), .some 84)), (none, (.mov (.tmp 0), .some 85)), (none, (.mov (.tmp 10), .some 86)), (none, (.iadr 3 (.tmp 85) (.tmp 86), .some 87)), (none, (.load (.some 3) (.tmp 87), .some 88)), (none, (.call (.func 22) [.tmp 88], .some 89)), (none, (.bin .lss (.tmp 84) (.tmp 89), .some 90))] []) (.cond (.tmp 90) .skip (.exit 2))) (.seq (.block 3 (.seq
  (.reg [(none, (.mov (.tmp 3), .some 93)), (none, (.mov (.tmp 9), .some 94)), (none, (.iadr 2 (.tmp 93) (.tmp 94), .some 95)), (none, (.aadr 2 1 (.tmp 95) (.const (.int .i64 0)), .some 96)), (none, (.load none (.tmp 96), .some 97)), (none, (.mov (.tmp 3), .some 98)), (none, (.mov (.tmp 9), .some 99)), (none, (.iadr 2 (.tmp 98) (.tmp 99), .some 100)), (none, (.aadr 2 1 (.tmp 100) (.const (.int .i64 1)), .some 101)), (none, (.load none (.tmp 101), .some 102)), (none, (.mov (.tmp 97), .some 12)), (none, (.mov (.tmp 102), .some 13))] [(4, 9)]) (.seq (.seq
  (.reg [(none, (.mov (.tmp 12), .some 103)), (none, (.bin .lss (.tmp 103) (.const (.int .i64 0)), .some 104)), (none, (.mov (.tmp 104), .some 105)), (.some (105, .false), (.mov (.tmp 12), .some 106)), (.some (105, .false), (.mov (.tmp 10), .some 107)), (.some (105, .false), (.bin .gtr (.tmp 106) (.tmp 107), .some 108)), (none, (.pick (.tmp 105) (.const (.bool .true)) (.tmp 108), .some 109)), (none, (.mov (.tmp 109), .some 110)), (.some (110, .false), (.mov (.tmp 13), .some 111)), (.some (110, .false), (.bin .lss (.tmp 111) (.const (.int .i64 0)), .some 112)), (none, (.pick (.tmp 110) (.const (.bool .true)) (.tmp 112), .some 113)), (none, (.mov (.tmp 113), .some 114)), (.some (114, .false), (.mov (.tmp 13), .some 115)), (.some (114, .false), (.mov (.tmp 0), .some 116)), (.some (114, .false), (.mov (.tmp 12), .some 117)), (.some (114, .false), (.iadr 3 (.tmp 116) (.tmp 117), .some 118)), (.some (114, .false), (.fadr 0 (.tmp 118), .some 119)), (.some (114, .false), (.load none (.tmp 119), .some 120)), (.some (114, .false), (.len .false (.tmp 120), .some 121)), (.some (114, .false), (.bin .geq (.tmp 115) (.tmp 121), .some 122)), (none, (.pick (.tmp 114) (.const (.bool .true)) (.tmp 122), .some 123)), (none, (.mov (.tmp 123), .some 124)), (.some (124, .false), (.mov (.tmp 0), .some 125)), (.some (124, .false), (.mov (.tmp 12), .some 126)), (.some (124, .false), (.iadr 3 (.tmp 125) (.tmp 126), .some 127)), (.some (124, .false), (.fadr 0 (.tmp 127), .some 128)), (.some (124, .false), (.load none (.tmp 128), .some 129)), (.some (124, .false), (.mov (.tmp 13), .some 130)), (.some (124, .false), (.iadr 1 (.tmp 129) (.tmp 130), .some 131)), (.some (124, .false), (.load none (.tmp 131), .some 132)), (.some (124, .false), (.mov (.tmp 7), .some 133)), (.some (124, .false), (.mov (.tmp 9), .some 134)), (.some (124, .false), (.iadr 1 (.tmp 133) (.tmp 134), .some 135)), (.some (124, .false), (.load none (.tmp 135), .some 136)), (.some (124, .false), (.bin .neq (.tmp 132) (.tmp 136), .some 137)), (none, (.pick (.tmp 124) (.const (.bool .true)) (.tmp 137), .some 138))] [(26, 33), (29, 33)]) (.cond (.tmp 138) (.seq
  (.reg [(none, (.mov (.const (.bool .false)), .some 2))] []) .ret) .skip)) (.seq (.seq
  (.reg [(none, (.mov (.tmp 0), .some 139)), (none, (.mov (.tmp 10), .some 140)), (none, (.iadr 3 (.tmp 139) (.tmp 140), .some 141)), (none, (.load (.some 3) (.tmp 141), .some 142)), (none, (.call (.func 25) [.tmp 142], .some 143)), (none, (.mov (.tmp 143), .some 144)), (.some (144, .true), (.mov (.tmp 12), .some 145)), (.some (144, .true), (.mov (.tmp 10), .some 146)), (.some (144, .true), (.bin .neq (.tmp 145) (.tmp 146), .some 147)), (.some (144, .true), (.mov (.tmp 147), .some 148)), (.some (148, .false), (.mov (.tmp 13), .some 149)), (.some (148, .false), (.mov (.tmp 11), .some 150)), (.some (148, .false), (.bin .neq (.tmp 149) (.tmp 150), .some 151)), (.some (144, .true), (.pick (.tmp 148) (.const (.bool .true)) (.tmp 151), .some 152)), (.some (144, .true), (.mov (.tmp 152), .some 153)), (.some (153, .false), (.mov (.tmp 5), .some 154)), (.some (153, .false), (.mov (.tmp 9), .some 155)), (.some (153, .false), (.iadr 1 (.tmp 154) (.tmp 155), .some 156)), (.some (153, .false), (.load none (.tmp 156), .some 157)), (.some (153, .false), (.bin .neq (.tmp 157) (.const (.int .i64 0)), .some 158)), (.some (144, .true), (.pick (.tmp 153) (.const (.bool .true)) (.tmp 158), .some 159)), (none, (.pick (.tmp 144) (.tmp 159) (.const (.bool .false)), .some 160))] []) (.cond (.tmp 160) (.seq
  (.reg [(none, (.mov (.const (.bool .false)), .some 2))] []) .ret) .skip)) (.seq (.seq
  (.reg [(none, (.mov (.tmp 0), .some 161)), (none, (.mov (.tmp 10), .some 162)), (none, (.iadr 3 (.tmp 161) (.tmp 162), .some 163)), (none, (.load (.some 3) (.tmp 163), .some 164)), (none, (.call (.func 26) [.tmp 164], .some 165)), (none, (.mov (.tmp 165), .some 166)), (.some (166, .true), (.mov (.tmp 3), .some 167)), (.some (166, .true), (.mov (.tmp 9), .some 168)), (.some (166, .true), (.iadr 2 (.tmp 167) (.tmp 168), .some 169)), (.some (166, .true), (.load (.some 2) (.tmp 169), .some 170)), (.some (166, .true), (.mov (.tmp 3), .some 171)), (.some (166, .true), (.mov (.tmp 9), .some 172)), (.some (166, .true), (.mov (.tmp 0), .some 173)), (.some (166, .true), (.mov (.tmp 10), .some 174)), (.some (166, .true), (.iadr 3 (.tmp 173) (.tmp 174), .some 175)), (.some (166, .true), (.fadr 1 (.tmp 175), .some 176)), (.some (166, .true), (.load none (.tmp 176), .some 177)), (.some (166, .true), (.bin .sub (.tmp 172) (.tmp 177), .some 178)), (.some (166, .true), (.iadr 2 (.tmp 171) (.tmp 178), .some 179)), (.some (166, .true), (.load (.some 2) (.tmp 179), .some 180)), (.some (166, .true), (.eqa .true 2 (.tmp 170) (.tmp 180), .some 181)), (.some (166, .true), (.mov (.tmp 181), .some 182)), (.some (182, .false), (.mov (.tmp 5), .some 183)), (.some (182, .false), (.mov (.tmp 9), .some 184)), (.some (182, .false), (.iadr 1 (.tmp 183) (.tmp 184), .some 185)), (.some (182, .false), (.load none (.tmp 185), .some 186)), (.some (182, .false), (.mov (.tmp 5), .some 187)), (.some (182, .false), (.mov (.tmp 9), .some 188)), (.some (182, .false), (.mov (.tmp 0), .some 189)), (.some (182, .false), (.mov (.tmp 10), .some 190)), (.some (182, .false), (.iadr 3 (.tmp 189) (.tmp 190), .some 191)), (.some (182, .false), (.fadr 1 (.tmp 191), .some 192)), (.some (182, .false), (.load none (.tmp 192), .some 193)), (.some (182, .false), (.bin .sub (.tmp 188) (.tmp 193), .some 194)), (.some (182, .false), (.iadr 1 (.tmp 187) (.tmp 194), .some 195)), (.some (182, .false), (.load none (.tmp 195), .some 196)), (.some (182, .false), (.bin .add (.tmp 196) (.const (.int .i64 1)), .some 197)), (.some (182, .false), (.bin .neq (.tmp 186) (.tmp 197), .some 198)), (.some (166, .true), (.pick (.tmp 182) (.const (.bool .true)) (.tmp 198), .some 199)), (none, (.pick (.tmp 166) (.tmp 199) (.const (.bool .false)), .some 200))] [(9, 16), (9, 19), (25, 32), (25, 35)]) (.cond (.tmp 200) (.seq
  (.reg [(none, (.mov (.const (.bool .false)), .some 2))] []) .ret) .skip))
  (.reg [(none, (.mov (.tmp 9), .some 201)), (none, (.bin .add (.tmp 201) (.const (.int .i64 1)), .some 202)), (none, (.mov (.tmp 202), .some 9))] []))))))
  (.reg [(none, (.mov (.tmp 11), .some 91)), (none, (.bin .add (.tmp 91) (.const (.int .i64 1)), .some 92)), (none, (.mov (.tmp 92), .some 11))] [])))))))
  (.reg [(none, (.mov (.tmp 10), .some 82)), (none, (.bin .add (.tmp 82) (.const (.int .i64 1)), .some 83)), (none, (.mov (.tmp 83), .some 10))] [])))))) (.seq
  (.reg [(none, (.call (.func 18) [], .some 203)), (none, (.mov (.tmp 203), .some 2))] []) .ret))))))))))
theorem b4 : Try.f4.body.bind (compC Try.prog) = some c4 := by kernel_rfl
theorem r4 : compR Try.prog Try.f4 = .some [.tmp 2] := by kernel_rfl
theorem n4 : (Try.f4.name == "runtime.NumGoroutine") = false := by kernel_rfl
def c14 : C := .seq
  (.reg [(none, (.mov (.const (.bool .false)), .some 4))] []) (.seq (.seq
  (.reg [(none, (.mov (.tmp 0), .some 14)), (none, (.len .false (.tmp 14), .some 15)), (none, (.bin .gtr (.tmp 15) (.const (.int .i64 500)), .some 16))] []) (.cond (.tmp 16) (.seq
  (.reg [(none, (.call (.func 27) [], .some 17)), (none, (.mov (.tmp 17), .some 4))] []) .ret) .skip)) (.seq
  (.reg [(none, (.mov (.tmp 0), .some 18)), (none, (.call (.func 53) [.tmp 18], .some 19)), (none, (.mov (.tmp 19), .some 5))] []) (.seq
  (.reg [(none, (.mov (.tmp 5), .some 20)), (none, (.mov (.tmp 1), .some 21)), (none, (.call (.func 63) [.tmp 20, .tmp 21], .some 22)), (none, (.mov (.tmp 22), .some 6))] []) (.seq
  (.reg [(none, (.mov (.tmp 0), .some 24)), (none, (.build [.slice none 0 0, .int .i64 0, .int .i64 0, .int .i64 0] [(0, (1, .tmp 24))], .some 25)), (none, (.mov (.tmp 1), .some 26)), (none, (.call (.func 64) [.tmp 25, .tmp 26], .some 27)), (none, (.mov (.tmp 27), .some 23)), (none, (.ext (.tmp 23) 0, .some 28)), (none, (.ext (.tmp 23) 1, .some 29)), (none, (.new [.slice none 0 0, .int .i64 0, .int .i64 0, .int .i64 0], .some 7)), (none, (.store 4 (.tmp 7) (.tmp 28), none)), (none, (.mov (.tmp 29), .some 8))] []) (.seq
  (.reg [(none, (.mov (.tmp 0), .some 31)), (none, (.mov (.tmp 1), .some 32)), (none, (.call (.func 61) [.tmp 31, .tmp 32], .some 33)), (none, (.mov (.tmp 33), .some 30)), (none, (.ext (.tmp 30) 0, .some 34)), (none, (.ext (.tmp 30) 1, .some 35)), (none, (.ext (.tmp 30) 2, .some 36)), (none, (.new [.int .i64 0, .int .i64 0], .some 11)), (none, (.mov (.tmp 34), .some 9)), (none, (.mov (.tmp 35), .some 10)), (none, (.store 2 (.tmp 11) (.tmp 36), none))] []) (.seq (.seq
  (.reg [(none, (.mov (.tmp 6), .some 37)), (none, (.mov (.tmp 8), .some 38)), (none, (.call (.func 21) [.tmp 37, .tmp 38], .some 39)), (none, (.un .not (.tmp 39), .some 40)), (none, (.mov (.tmp 40), .some 41)), (.some (41, .false), (.mov (.tmp 5), .some 42)), (.some (41, .false), (.call (.func 56) [.tmp 42], .some 43)), (.some (41, .false), (.fadr 2 (.tmp 7), .some 44)), (.some (41, .false), (.load (.some 2) (.tmp 44), .some 45)), (.some (41, .false), (.eqa .true 2 (.tmp 43) (.tmp 45), .some 46)), (none, (.pick (.tmp 41) (.const (.bool .true)) (.tmp 46), .some 47)), (none, (.mov (.tmp 47), .some 48)), (.some (48, .false), (.mov (.tmp 9), .some 49)), (.some (48, .false), (.mov (.tmp 8), .some 50)), (.some (48, .false), (.call (.func 21) [.tmp 49, .tmp 50], .some 51)), (.some (48, .false), (.un .not (.tmp 51), .some 52)), (none, (.pick (.tmp 48) (.const (.bool .true)) (.tmp 52), .some 53)), (none, (.mov (.tmp 53), .some 54)), (.some (54, .false), (.load (.some 2) (.tmp 11), .some 55)), (.some (54, .false), (.fadr 2 (.tmp 7), .some 56)), (.some (54, .false), (.load (.some 2) (.tmp 56), .some 57)), (.some (54, .false), (.eqa .true 2 (.tmp 55) (.tmp 57), .some 58)), (none, (.pick (.tmp 54) (.const (.bool .true)) (.tmp 58), .some 59))] [(6, 8), (18, 20)]) (.cond (.tmp 59) (.seq
  (.reg [(none, (.mov (.const (.bool .false)), .some 4))] []) .ret) .skip)) (.seq (.seq
  (.reg [(none, (.fadr 2 (.tmp 7), .some 60)), (none, (.fadr 0 (.tmp 60), .some 61)), (none, (.load none (.tmp 61), .some 62)), (none, (.bin .eql (.tmp 62) (.const (.int .i64 0)), .some 63)), (none, (.mov (.tmp 63), .some 64)), (.some (64, .true), (.mov (.tmp 10), .some 65)), (.some (64, .true), (.fadr 1 (.tmp 7), .some 66)), (.some (64, .true), (.load none (.tmp 66), .some 67)), (.some (64, .true), (.bin .neq (.tmp 65) (.tmp 67), .some 68)), (.some (64, .true), (.mov (.tmp 68), .some 69)), (.some (69, .false), (.mov (.tmp 5), .some 70)), (.some (69, .false), (.call (.func 57) [.tmp 70], .some 71)), (.some (69, .false), (.fadr 1 (.tmp 7), .some 72)), (.some (69, .false), (.load none (.tmp 72), .some 73)), (.some (69, .false), (.bin .neq (.tmp 71) (.tmp 73), .some 74)), (.some (64, .true), (.pick (.tmp 69) (.const (.bool .true)) (.tmp 74), .some 75)), (none, (.pick (.tmp 64) (.tmp 75) (.const (.bool .false)), .some 76)), (none, (.mov (.tmp 76), .some 77)), (.some (77, .false), (.fadr 2 (.tmp 7), .some 78)), (.some (77, .false), (.fadr 0 (.tmp 78), .some 79)), (.some (77, .false), (.load none (.tmp 79), .some 80)), (.some (77, .false), (.bin .neq (.tmp 80) (.const (.int .i64 0)), .some 81)), (.some (77, .false), (.mov (.tmp 81), .some 82)), (.some (82, .true), (.mov (.tmp 10), .some 83)), (.some (82, .true), (.bin .neq (.tmp 83) (.const (.int .i64 0)), .some 84)), (.some (77, .false), (.pick (.tmp 82) (.tmp 84) (.const (.bool .false)), .some 85)), (none, (.pick (.tmp 77) (.const (.bool .true)) (.tmp 85), .some 86))] [(11, 13)]) (.cond (.tmp 86) (.seq
  (.reg [(none, (.mov (.const (.bool .false)), .some 4))] []) .ret) .skip)) (.seq
  (.reg [(none, (.mov (.tmp 0), .some 88)), (none, (.mov (.tmp 1), .some 89)), (none, (.call (.func 65) [.tmp 88, .tmp 89], .some 90)), (none, (.mov (.tmp 90), .some 87)), (none, (.ext (.tmp 87) 0, .some 91)), (none, (.ext (.tmp 87) 1, .some 92)), (none, (.mov (.tmp 91), .some 12)), (none, (.mov (.tmp 92), .some 13))] []) (.seq
  (.reg [(none, (.mov (.tmp 12), .some 93)), (none, (.mov (.tmp 0), .some 94)), (none, (.mov (.tmp 1), .some 95)), (none, (.call (.func 66) [.tmp 94, .tmp 95], .some 96)), (none, (.bin .eql (.tmp 93) (.tmp 96), .some 97)), (none, (.mov (.tmp 97), .some 98)), (.some (98, .true), (.mov (.tmp 13), .some 99)), (.some (98, .true), (.mov (.tmp 12), .some 100)), (.some (98, .true), (.bin .gtr (.tmp 100) (.const (.int .i64 0)), .some 101)), (.some (98, .true), (.eqb .false (.tmp 99) (.tmp 101), .some 102)), (none, (.pick (.tmp 98) (.tmp 102) (.const (.bool .false)), .some 103)), (none, (.mov (.tmp 103), .some 104)), (.some (104, .true), (.call (.func 27) [], .some 105)), (none, (.pick (.tmp 104) (.tmp 105) (.const (.bool .false)), .some 106)), (none, (.mov (.tmp 106), .some 4))] []) .ret)))))))))
theorem b14 : Try.f14.body.bind (compC Try.prog) = some c14 := by kernel_rfl
theorem r14 : compR Try.prog Try.f14 = .some [.tmp 4] := by kernel_rfl
theorem n14 : (Try.f14.name == "runtime.NumGoroutine") = false := by kernel_rfl
def c18 : C := .seq
  (.reg [(none, (.mov (.const (.bool .false)), .some 0))] []) (.seq
  (.reg [(none, (.bsl 1 [.const (.int .u8 7), .const (.int .u8 8)], .some 4)), (none, (.build [.slice none 0 0, .int .i64 0, .int .i64 0] [(0, (1, .tmp 4))], .some 5)), (none, (.build [.slice none 0 0, .int .i64 0, .int .i64 0] [(1, (1, .const (.int .i64 2))), (2, (1, .const (.int .i64 5)))], .some 6)), (none, (.bsl 3 [.tmp 5, .tmp 6], .some 7)), (none, (.call (.func 19) [.tmp 7, .const (.int .i64 9)], .some 8)), (none, (.mov (.tmp 8), .some 3)), (none, (.ext (.tmp 3) 0, .some 9)), (none, (.ext (.tmp 3) 1, .some 10)), (none, (.new [.int .i64 0, .int .i64 0], .some 2)), (none, (.mov (.tmp 9), .some 1)), (none, (.store 2 (.tmp 2) (.tmp 10), none))] []) (.seq
  (.reg [(none, (.load (.some 2) (.tmp 2), .some 11)), (none, (.build [.int .i64 0, .int .i64 0] [], .some 12)), (none, (.eqa .false 2 (.tmp 11) (.tmp 12), .some 13)), (none, (.mov (.tmp 13), .some 14)), (.some (14, .true), (.mov (.tmp 1), .some 15)), (.some (14, .true), (.bsl 1 [.const (.int .u8 7), .const (.int .u8 8), .const (.int .u8 7), .const (.int .u8 8), .const (.int .u8 7), .const (.int .u8 8), .const (.int .u8 7)], .some 16)), (.some (14, .true), (.call (.func 21) [.tmp 15, .tmp 16], .some 17)), (none, (.pick (.tmp 14) (.tmp 17) (.const (.bool .false)), .some 18)), (none, (.mov (.tmp 18), .some 0))] []) .ret))
theorem b18 : Try.f18.body.bind (compC Try.prog) = some c18 := by kernel_rfl
theorem r18 : compR Try.prog Try.f18 = .some [.tmp 0] := by kernel_rfl
theorem n18 : (Try.f18.name == "runtime.NumGoroutine") = false := by kernel_rfl
def c21 : C := .seq
  (.reg [(none, (.mov (.const (.bool .false)), .some 4))] []) (.seq
  (.reg [(none, (.mov (.tmp 0), .some 5)), (none, (.b2s (.tmp 5), .some 6)), (none, (.mov (.tmp 1), .some 7)), (none, (.b2s (.tmp 7), .some 8)), (none, (.bin .eql (.tmp 6) (.tmp 8), .some 9)), (none, (.mov (.tmp 9), .some 4))] []) .ret)
theorem b21 : Try.f21.body.bind (compC Try.prog) = some c21 := by kernel_rfl
theorem r21 : compR Try.prog Try.f21 = .some [.tmp 4] := by kernel_rfl
theorem n21 : (Try.f21.name == "runtime.NumGoroutine") = false := by kernel_rfl
def c27 : C := .seq
  (.reg [(none, (.mov (.const (.bool .false)), .some 0))] []) (.seq
  (.reg [(none, (.call (.func 28) [.const (.slice none 0 0)], .some 4)), (none, (.mov (.tmp 4), .some 3)), (none, (.ext (.tmp 3) 0, .some 5)), (none, (.ext (.tmp 3) 1, .some 6)), (none, (.mov (.tmp 5), .some 1)), (none, (.mov (.tmp 6), .some 2))] []) (.seq
  (.reg [(none, (.mov (.tmp 2), .some 7)), (none, (.bin .eql (.tmp 7) (.const (.int .i64 0)), .some 8)), (none, (.mov (.tmp 8), .some 9)), (.some (9, .true), (.mov (.tmp 1), .some 10)), (.some (9, .true), (.bsl 1 [.const (.int .u8 0), .const (.int .u8 0), .const (.int .u8 0), .const (.int .u8 0), .const (.int .u8 0)], .some 11)), (.some (9, .true), (.call (.func 21) [.tmp 10, .tmp 11], .some 12)), (none, (.pick (.tmp 9) (.tmp 12) (.const (.bool .false)), .some 13)), (none, (.mov (.tmp 13), .some 0))] []) .ret))
theorem b27 : Try.f27.body.bind (compC Try.prog) = some c27 := by kernel_rfl
theorem r27 : compR Try.prog Try.f27 = .some [.tmp 0] := by kernel_rfl
theorem n27 : (Try.f27.name == "runtime.NumGoroutine") = false := by kernel_rfl
def c29 : C := .seq
  (.reg [(none, (.mov (.const (.pointer none)), .some 2))] []) (.seq
  (.reg [(none, (.mov (.tmp 0), .some 3)), (none, (.mx .true (.tmp 3) (.const (.int .i64 0)), .some 4)), (none, (.build [.int .i64 0, .slice none 0 0, .int .i64 0] [(0, (1, .tmp 4))], .some 5)), (none, (.box (.tmp 5), .some 6)), (none, (.mov (.tmp 6), .some 2))] []) .ret)
theorem b29 : Try.f29.body.bind (compC Try.prog) = some c29 := by kernel_rfl
theorem r29 : compR Try.prog Try.f29 = .some [.tmp 2] := by kernel_rfl
theorem n29 : (Try.f29.name == "runtime.NumGoroutine") = false := by kernel_rfl
def c33 : C := .seq
  (.reg [(none, (.mov (.const (.slice none 0 0)), .some 2))] []) (.seq (.seq
  (.reg [(none, (.mov (.tmp 0), .some 3)), (none, (.bin .lss (.tmp 3) (.const (.int .u64 128)), .some 4))] []) (.cond (.tmp 4) (.seq
  (.reg [(none, (.mov (.tmp 0), .some 5)), (none, (.cvt .u8 (.tmp 5), .some 6)), (none, (.bsl 1 [.tmp 6], .some 7)), (none, (.mov (.tmp 7), .some 2))] []) .ret) .skip)) (.seq
  (.reg [(none, (.mov (.tmp 0), .some 8)), (none, (.bin .rem (.tmp 8) (.const (.int .u64 128)), .some 9)), (none, (.bin .add (.const (.int .u64 128)) (.tmp 9), .some 10)), (none, (.cvt .u8 (.tmp 10), .some 11)), (none, (.bsl 1 [.tmp 11], .some 12)), (none, (.mov (.tmp 0), .some 13)), (none, (.bin .quo (.tmp 13) (.const (.int .u64 128)), .some 14)), (none, (.call (.func 33) [.tmp 14], .some 15)), (none, (.app 1 1 (.tmp 12) (.tmp 15), .some 16)), (none, (.mov (.tmp 16), .some 2))] []) .ret))
theorem b33 : Try.f33.body.bind (compC Try.prog) = some c33 := by kernel_rfl
theorem r33 : compR Try.prog Try.f33 = .some [.tmp 2] := by kernel_rfl
theorem n33 : (Try.f33.name == "runtime.NumGoroutine") = false := by kernel_rfl
def c34 : C := .seq
  (.reg [(none, (.mov (.const (.slice none 0 0)), .some 2))] []) (.seq
  (.reg [(none, (.mov (.tmp 0), .some 3)), (none, (.call (.func 82) [.tmp 3], .some 4)), (none, (.mov (.tmp 0), .some 5)), (none, (.call (.func 84) [.tmp 5], .some 6)), (none, (.cvt .u64 (.tmp 6), .some 7)), (none, (.call (.func 83) [.tmp 7, .const (.int .i64 4)], .some 8)), (none, (.app 1 1 (.tmp 4) (.tmp 8), .some 9)), (none, (.mov (.tmp 9), .some 2))] []) .ret)
theorem b34 : Try.f34.body.bind (compC Try.prog) = some c34 := by kernel_rfl
theorem r34 : compR Try.prog Try.f34 = .some [.tmp 2] := by kernel_rfl
theorem n34 : (Try.f34.name == "runtime.NumGoroutine") = false := by kernel_rfl
def c44 : C := .seq
  (.reg [(none, (.mov (.const (.int .i64 0)), .some 2))] []) (.seq
  (.reg [(none, (.mov (.const (.int .i64 0)), .some 3))] []) (.seq (.seq
  (.reg [(none, (.mov (.tmp 0), .some 6)), (none, (.len .false (.tmp 6), .some 7)), (none, (.mov (.const (.int .i64 0)), .some 8))] []) (.block 0 (.loop (.seq
  (.reg [(none, (.bin .lss (.tmp 8) (.tmp 7), .some 9))] []) (.seq (.cond (.tmp 9) .skip (.exit 0)) (.seq (.block 1 (.seq
  (.reg [(none, (.iadr 3 (.tmp 6) (.tmp 8), .some 10)), (none, (.load (.some 3) (.tmp 10), .some 11)), (none, (.new [.slice none 0 0, .int .i64 0, .int .i64 0], .some 5)), (none, (.store 3 (.tmp 5) (.tmp 11), none))] [])
  (.reg [(none, (.mov (.tmp 3), .some 12)), (none, (.load (.some 3) (.tmp 5), .some 13)), (none, (.call (.func 40) [.tmp 13], .some 14)), (none, (.bin .add (.tmp 12) (.tmp 14), .some 15)), (none, (.mov (.tmp 15), .some 3))] [])))
  (.reg [(none, (.bin .add (.tmp 8) (.const (.int .i64 1)), .some 16)), (none, (.mov (.tmp 16), .some 8))] []))))))) (.seq
  (.reg [(none, (.mov (.tmp 3), .some 17)), (none, (.mov (.tmp 17), .some 2))] []) .ret)))
theorem b44 : Try.f44.body.bind (compC Try.prog) = some c44 := by kernel_rfl
theorem r44 : compR Try.prog Try.f44 = .some [.tmp 2] := by kernel_rfl
theorem n44 : (Try.f44.name == "runtime.NumGoroutine") = false := by kernel_rfl
def c48 : C := .seq
  (.reg [(none, (.mov (.const (.slice none 0 0)), .some 4)), (none, (.new [.int .i64 0, .int .i64 0], .some 5))] []) (.seq
  (.reg [(none, (.mov (.tmp 0), .some 12)), (none, (.build [.slice none 0 0, .int .i64 0, .int .i64 0, .int .i64 0] [(0, (1, .tmp 12))], .some 13)), (none, (.new [.slice none 0 0, .int .i64 0, .int .i64 0, .int .i64 0], .some 6)), (none, (.store 4 (.tmp 6) (.tmp 13), none))] []) (.seq
  (.reg [(none, (.mov (.const (.slice none 0 0)), .some 7))] []) (.seq (.block 0 (.loop (.seq (.seq
  (.reg [(none, (.fadr 1 (.tmp 6), .some 14)), (none, (.load none (.tmp 14), .some 15)), (none, (.mov (.tmp 0), .some 16)), (none, (.len .false (.tmp 16), .some 17)), (none, (.bin .lss (.tmp 15) (.tmp 17), .some 18))] []) (.cond (.tmp 18) .skip (.exit 0))) (.block 1 (.seq
  (.reg [(none, (.load (.some 4) (.tmp 6), .some 20)), (none, (.call (.func 95) [.tmp 20], .some 21)), (none, (.mov (.tmp 21), .some 19)), (none, (.ext (.tmp 19) 0, .some 22)), (none, (.ext (.tmp 19) 1, .some 23)), (none, (.new [.slice none 0 0, .int .i64 0, .int .i64 0, .int .i64 0], .some 8)), (none, (.store 4 (.tmp 8) (.tmp 22), none)), (none, (.mov (.tmp 23), .some 9))] []) (.seq (.seq
  (.reg [(none, (.fadr 2 (.tmp 8), .some 24)), (none, (.fadr 0 (.tmp 24), .some 25)), (none, (.load none (.tmp 25), .some 26)), (none, (.bin .eql (.tmp 26) (.const (.int .i64 0)), .some 27)), (none, (.mov (.tmp 27), .some 28)), (.some (28, .true), (.mov (.tmp 9), .some 29)), (.some (28, .true), (.call (.func 96) [.tmp 29], .some 30)), (.some (28, .true), (.bin .gtr (.tmp 30) (.const (.int .i64 0)), .some 31)), (none, (.pick (.tmp 28) (.tmp 31) (.const (.bool .false)), .some 32)), (none, (.mov (.tmp 32), .some 33)), (.some (33, .true), (.mov (.tmp 7), .some 34)), (.some (33, .true), (.len .false (.tmp 34), .some 35)), (.some (33, .true), (.mov (.tmp 9), .some 36)), (.some (33, .true), (.call (.func 96) [.tmp 36], .some 37)), (.some (33, .true), (.bin .add (.tmp 35) (.tmp 37), .some 38)), (.some (33, .true), (.mov (.tmp 1), .some 39)), (.some (33, .true), (.bin .gtr (.tmp 38) (.tmp 39), .some 40)), (none, (.pick (.tmp 33) (.tmp 40) (.const (.bool .false)), .some 41))] []) (.cond (.tmp 41) (.seq
  (.reg [(none, (.fadr 1 (.tmp 6), .some 42)), (none, (.load none (.tmp 42), .some 43)), (none, (.call (.func 73) [.const (.int .i64 11), .tmp 43], .some 44)), (none, (.mov (.const (.slice none 0 0)), .some 4)), (none, (.store 2 (.tmp 5) (.tmp 44), none))] []) .ret) .skip)) (.seq
  (.reg [(none, (.load (.some 4) (.tmp 6), .some 46)), (none, (.call (.func 55) [.tmp 46], .some 47)), (none, (.mov (.tmp 47), .some 45)), (none, (.ext (.tmp 45) 0, .some 48)), (none, (.ext (.tmp 45) 1, .some 49)), (none, (.new [.slice none 0 0, .int .i64 0, .int .i64 0, .int .i64 0], .some 10)), (none, (.new [.slice none 0 0, .int .i64 0, .int .i64 0], .some 11)), (none, (.store 4 (.tmp 10) (.tmp 48), none)), (none, (.store 3 (.tmp 11) (.tmp 49), none))] []) (.seq (.seq
  (.reg [(none, (.fadr 2 (.tmp 10), .some 50)), (none, (.fadr 0 (.tmp 50), .some 51)), (none, (.load none (.tmp 51), .some 52)), (none, (.bin .neq (.tmp 52) (.const (.int .i64 0)), .some 53))] []) (.cond (.tmp 53) (.seq
  (.reg [(none, (.fadr 2 (.tmp 10), .some 54)), (none, (.load (.some 2) (.tmp 54), .some 55)), (none, (.mov (.const (.slice none 0 0)), .some 4)), (none, (.store 2 (.tmp 5) (.tmp 55), none))] []) .ret) .skip)) (.seq (.seq
  (.reg [(none, (.fadr 1 (.tmp 11), .some 56)), (none, (.load none (.tmp 56), .some 57)), (none, (.mov (.tmp 7), .some 58)), (none, (.len .false (.tmp 58), .some 59)), (none, (.bin .gtr (.tmp 57) (.tmp 59), .some 60))] []) (.cond (.tmp 60) (.seq
  (.reg [(none, (.fadr 1 (.tmp 8), .some 61)), (none, (.load none (.tmp 61), .some 62)), (none, (.call (.func 73) [.const (.int .i64 10), .tmp 62], .some 63)), (none, (.mov (.const (.slice none 0 0)), .some 4)), (none, (.store 2 (.tmp 5) (.tmp 63), none))] []) .ret) .skip)) (.seq
  (.reg [(none, (.mov (.tmp 7), .some 64)), (none, (.load (.some 3) (.tmp 11), .some 65)), (none, (.call (.func 74) [.tmp 64, .tmp 65], .some 66)), (none, (.mov (.tmp 66), .some 7))] [])
  (.reg [(none, (.load (.some 4) (.tmp 10), .some 67)), (none, (.store 4 (.tmp 6) (.tmp 67), none))] []))))))))))) (.seq
  (.reg [(none, (.mov (.tmp 7), .some 68)), (none, (.build [.int .i64 0, .int .i64 0] [], .some 69)), (none, (.mov (.tmp 68), .some 4)), (none, (.store 2 (.tmp 5) (.tmp 69), none))] []) .ret))))
theorem b48 : Try.f48.body.bind (compC Try.prog) = some c48 := by kernel_rfl
theorem r48 : compR Try.prog Try.f48 = .some [.tmp 4, .cell 5 (.some 2)] := by kernel_rfl
theorem n48 : (Try.f48.name == "runtime.NumGoroutine") = false := by kernel_rfl
def c52 : C := .seq
  (.reg [(none, (.mov (.const (.slice none 0 0)), .some 2)), (none, (.new [.int .i64 0, .int .i64 0], .some 3))] []) (.seq
  (.reg [(none, (.mov (.tmp 0), .some 8)), (none, (.build [.slice none 0 0, .int .i64 0, .int .i64 0, .int .i64 0] [(0, (1, .tmp 8))], .some 9)), (none, (.new [.slice none 0 0, .int .i64 0, .int .i64 0, .int .i64 0], .some 4)), (none, (.store 4 (.tmp 4) (.tmp 9), none))] []) (.seq
  (.reg [(none, (.mov (.const (.slice none 0 0)), .some 5))] []) (.seq (.block 0 (.loop (.seq (.seq
  (.reg [(none, (.fadr 1 (.tmp 4), .some 10)), (none, (.load none (.tmp 10), .some 11)), (none, (.mov (.tmp 0), .some 12)), (none, (.len .false (.tmp 12), .some 13)), (none, (.bin .lss (.tmp 11) (.tmp 13), .some 14))] []) (.cond (.tmp 14) .skip (.exit 0))) (.block 1 (.seq
  (.reg [(none, (.load (.some 4) (.tmp 4), .some 16)), (none, (.call (.func 55) [.tmp 16], .some 17)), (none, (.mov (.tmp 17), .some 15)), (none, (.ext (.tmp 15) 0, .some 18)), (none, (.ext (.tmp 15) 1, .some 19)), (none, (.new [.slice none 0 0, .int .i64 0, .int .i64 0, .int .i64 0], .some 6)), (none, (.new [.slice none 0 0, .int .i64 0, .int .i64 0], .some 7)), (none, (.store 4 (.tmp 6) (.tmp 18), none)), (none, (.store 3 (.tmp 7) (.tmp 19), none))] []) (.seq
  (.reg [(none, (.load (.some 4) (.tmp 6), .some 20)), (none, (.store 4 (.tmp 4) (.tmp 20), none))] []) (.seq (.seq
  (.reg [(none, (.fadr 2 (.tmp 4), .some 21)), (none, (.fadr 0 (.tmp 21), .some 22)), (none, (.load none (.tmp 22), .some 23)), (none, (.bin .neq (.tmp 23) (.const (.int .i64 0)), .some 24))] []) (.cond (.tmp 24) (.seq
  (.reg [(none, (.fadr 2 (.tmp 4), .some 25)), (none, (.fadr 0 (.tmp 25), .some 26)), (none, (.load none (.tmp 26), .some 27)), (none, (.fadr 2 (.tmp 4), .some 28)), (none, (.fadr 1 (.tmp 28), .some 29)), (none, (.load none (.tmp 29), .some 30)), (none, (.call (.func 73) [.tmp 27, .tmp 30], .some 31)), (none, (.mov (.const (.slice none 0 0)), .some 2)), (none, (.store 2 (.tmp 3) (.tmp 31), none))] []) .ret) .skip))
  (.reg [(none, (.mov (.tmp 5), .some 32)), (none, (.load (.some 3) (.tmp 7), .some 33)), (none, (.bsl 3 [.tmp 33], .some 34)), (none, (.app 3 40 (.tmp 32) (.tmp 34), .some 35)), (none, (.mov (.tmp 35), .some 5))] [])))))))) (.seq
  (.reg [(none, (.mov (.tmp 5), .some 36)), (none, (.build [.int .i64 0, .int .i64 0] [], .some 37)), (none, (.mov (.tmp 36), .some 2)), (none, (.store 2 (.tmp 3) (.tmp 37), none))] []) .ret))))
theorem b52 : Try.f52.body.bind (compC Try.prog) = some c52 := by kernel_rfl
theorem r52 : compR Try.prog Try.f52 = .some [.tmp 2, .cell 3 (.some 2)] := by kernel_rfl
theorem n52 : (Try.f52.name == "runtime.NumGoroutine") = false := by kernel_rfl
def c53 : C := .seq
  (.reg [(none, (.mov (.const (.pointer none)), .some 2))] []) (.seq
  (.reg [(none, (.mov (.tmp 0), .some 3)), (none, (.mov (.tmp 0), .some 4)), (none, (.len .false (.tmp 4), .some 5)), (none, (.mov (.tmp 0), .some 6)), (none, (.len .false (.tmp 6), .some 7)), (none, (.slice 1 (.tmp 3) none (.some (.tmp 5)) (.some (.tmp 7)), .some 8)), (none, (.build [.slice none 0 0, .int .i64 0, .int .i64 0, .int .i64 0] [(0, (1, .tmp 8))], .some 9)), (none, (.box (.tmp 9), .some 10)), (none, (.mov (.tmp 10), .some 2))] []) .ret)
theorem b53 : Try.f53.body.bind (compC Try.prog) = some c53 := by kernel_rfl
theorem r53 : compR Try.prog Try.f53 = .some [.tmp 2] := by kernel_rfl
theorem n53 : (Try.f53.name == "runtime.NumGoroutine") = false := by kernel_rfl
def c54 : C := .seq
  (.reg [(none, (.new [.slice none 0 0, .int .i64 0, .int .i64 0], .some 2))] []) (.seq
  (.reg [(none, (.new [.slice none 0 0, .int .i64 0, .int .i64 0], .some 3))] []) (.seq
  (.reg [(none, (.mov (.tmp 0), .some 7)), (none, (.call (.func 58) [.tmp 7], .some 8)), (none, (.mov (.tmp 8), .some 6)), (none, (.ext (.tmp 6) 0, .some 9)), (none, (.ext (.tmp 6) 1, .some 10)), (none, (.mov (.tmp 9), .some 4)), (none, (.mov (.tmp 10), .some 5))] []) (.seq (.block 0 (.seq
  (.reg [(none, (.mov (.tmp 4), .some 12)), (none, (.mov (.tmp 12), .some 11))] []) (.cond (.tmp 11) (.seq
  (.reg [(none, (.mov (.tmp 5), .some 13)), (none, (.fadr 2 (.tmp 3), .some 14)), (none, (.store 1 (.tmp 14) (.tmp 13), none))] [])
  (.reg [(none, (.mov (.tmp 0), .some 15)), (none, (.call (.func 59) [.tmp 15], .some 16)), (none, (.fadr 1 (.tmp 3), .some 17)), (none, (.store 1 (.tmp 17) (.tmp 16), none))] [])) (.seq
  (.reg [(none, (.mov (.tmp 5), .some 19)), (none, (.bin .gtr (.tmp 19) (.const (.int .i64 0)), .some 20)), (none, (.mov (.tmp 20), .some 18))] []) (.cond (.tmp 18)
  (.reg [(none, (.mov (.tmp 0), .some 21)), (none, (.mov (.tmp 5), .some 22)), (none, (.call (.func 93) [.tmp 21, .tmp 22], .some 23)), (none, (.fadr 0 (.tmp 3), .some 24)), (none, (.store 1 (.tmp 24) (.tmp 23), none))] []) .skip))))) (.seq (.seq
  (.reg [(none, (.mov (.tmp 0), .some 25)), (none, (.call (.func 60) [.tmp 25], .some 26)), (none, (.un .not (.tmp 26), .some 27))] []) (.cond (.tmp 27) (.seq
  (.reg [(none, (.build [.slice none 0 0, .int .i64 0, .int .i64 0] [], .some 28)), (none, (.store 3 (.tmp 2) (.tmp 28), none))] []) .ret) .skip)) (.seq
  (.reg [(none, (.load (.some 3) (.tmp 3), .some 29)), (none, (.store 3 (.tmp 2) (.tmp 29), none))] []) .ret)))))
theorem b54 : Try.f54.body.bind (compC Try.prog) = some c54 := by kernel_rfl
theorem r54 : compR Try.prog Try.f54 = .some [.cell 2 (.some 3)] := by kernel_rfl
theorem n54 : (Try.f54.name == "runtime.NumGoroutine") = false := by kernel_rfl
def c62 : C := .seq
  (.reg [(none, (.mov (.const (.slice none 0 0)), .some 6))] []) (.seq
  (.reg [(none, (.mov (.const (.slice none 0 0)), .some 7))] []) (.seq (.seq
  (.reg [(none, (.mov (.const (.int .i64 0)), .some 8))] []) (.block 0 (.loop (.seq (.seq
  (.reg [(none, (.mov (.tmp 8), .some 12)), (none, (.mov (.tmp 0), .some 13)), (none, (.len .false (.tmp 13), .some 14)), (none, (.bin .lss (.tmp 12) (.tmp 14), .some 15))] []) (.cond (.tmp 15) .skip (.exit 0))) (.seq (.block 1 (.seq
  (.reg [(none, (.mov (.tmp 0), .some 18)), (none, (.mov (.tmp 8), .some 19)), (none, (.iadr 1 (.tmp 18) (.tmp 19), .some 20)), (none, (.load none (.tmp 20), .some 21)), (none, (.mov (.tmp 21), .some 9))] []) (.seq (.seq
  (.reg [(none, (.mov (.const (.int .i64 0)), .some 10))] []) (.block 2 (.loop (.seq (.seq
  (.reg [(none, (.mov (.tmp 10), .some 22)), (none, (.bin .lss (.tmp 22) (.const (.int .i64 8)), .some 23))] []) (.cond (.tmp 23) .skip (.exit 2))) (.seq (.block 3 (.seq
  (.reg [(none, (.mov (.tmp 8), .some 26)), (none, (.bin .mul (.const (.int .i64 8)) (.tmp 26), .some 27)), (none, (.mov (.tmp 10), .some 28)), (none, (.bin .add (.tmp 27) (.tmp 28), .some 29)), (none, (.mov (.tmp 1), .some 30)), (none, (.bin .sub (.tmp 29) (.tmp 30), .some 31)), (none, (.mov (.tmp 31), .some 11))] []) (.seq
  (.reg [(none, (.mov (.tmp 11), .some 32)), (none, (.bin .geq (.tmp 32) (.const (.int .i64 0)), .some 33)), (none, (.mov (.tmp 33), .some 34)), (.some (34, .true), (.mov (.tmp 11), .some 35)), (.some (34, .true), (.bin .lss (.tmp 35) (.const (.int .i64 32)), .some 36)), (none, (.pick (.tmp 34) (.tmp 36) (.const (.bool .false)), .some 37)), (none, (.mov (.tmp 37), .some 38)), (.some (38, .true), (.mov (.tmp 2), .some 39)), (.some (38, .true), (.mov (.tmp 11), .some 40)), (.some (38, .true), (.cvt .u64 (.tmp 40), .some 41)), (.some (38, .true), (.bin .shr (.tmp 39) (.tmp 41), .some 42)), (.some (38, .true), (.bin .rem (.tmp 42) (.const (.int .u32 2)), .some 43)), (.some (38, .true), (.bin .eql (.tmp 43) (.const (.int .u32 1)), .some 44)), (none, (.pick (.tmp 38) (.tmp 44) (.const (.bool .false)), .some 45))] []) (.cond (.tmp 45)
  (.reg [(none, (.mov (.tmp 9), .some 46)), (none, (.mov (.tmp 10), .some 47)), (none, (.cvt .u64 (.tmp 47), .some 48)), (none, (.bin .shl (.const (.int .u8 1)) (.tmp 48), .some 49)), (none, (.bin .xor (.tmp 46) (.tmp 49), .some 50)), (none, (.mov (.tmp 50), .some 9))] []) .skip))))
  (.reg [(none, (.mov (.tmp 10), .some 24)), (none, (.bin .add (.tmp 24) (.const (.int .i64 1)), .some 25)), (none, (.mov (.tmp 25), .some 10))] []))))))
  (.reg [(none, (.mov (.tmp 7), .some 51)), (none, (.mov (.tmp 9), .some 52)), (none, (.bsl 1 [.tmp 52], .some 53)), (none, (.app 1 1 (.tmp 51) (.tmp 53), .some 54)), (none, (.mov (.tmp 54), .some 7))] []))))
  (.reg [(none, (.mov (.tmp 8), .some 16)), (none, (.bin .add (.tmp 16) (.const (.int .i64 1)), .some 17)), (none, (.mov (.tmp 17), .some 8))] [])))))) (.seq
  (.reg [(none, (.mov (.tmp 7), .some 55)), (none, (.mov (.tmp 55), .some 6))] []) .ret)))
theorem b62 : Try.f62.body.bind (compC Try.prog) = some c62 := by kernel_rfl
theorem r62 : compR Try.prog Try.f62 = .some [.tmp 6] := by kernel_rfl
theorem n62 : (Try.f62.name == "runtime.NumGoroutine") = false := by kernel_rfl
def c67 : C := .seq
  (.reg [(none, (.mov (.const (.int .i64 0)), .some 6)), (none, (.mov (.const (.bool .false)), .some 7))] []) (.seq (.seq
  (.reg [(none, (.mov (.tmp 1), .some 14)), (none, (.mx .true (.tmp 14) (.const (.int .i64 0)), .some 15)), (none, (.mov (.tmp 15), .some 8))] []) (.block 0 (.loop (.seq (.seq
  (.reg [(none, (.mov (.tmp 8), .some 16)), (none, (.mov (.tmp 0), .some 17)), (none, (.len .false (.tmp 17), .some 18)), (none, (.bin .lss (.tmp 16) (.tmp 18), .some 19))] []) (.cond (.tmp 19) .skip (.exit 0))) (.seq (.block 1 (.seq (.seq
  (.reg [(none, (.mov (.tmp 0), .some 23)), (none, (.mov (.tmp 8), .some 24)), (none, (.slice 1 (.tmp 23) (.some (.tmp 24)) none none, .some 25)), (none, (.mov (.tmp 2), .some 26)), (none, (.call (.func 65) [.tmp 25, .tmp 26], .some 27)), (none, (.mov (.tmp 27), .some 22)), (none, (.ext (.tmp 22) 0, .some 28)), (none, (.ext (.tmp 22) 1, .some 29)), (none, (.mov (.tmp 28), .some 9)), (none, (.mov (.tmp 29), .some 10))] []) (.seq
  (.reg [(none, (.mov (.tmp 10), .some 30)), (none, (.un .not (.tmp 30), .some 31))] []) (.cond (.tmp 31) (.exit 1) .skip))) (.seq
  (.reg [(none, (.mov (.tmp 0), .some 33)), (none, (.mov (.tmp 8), .some 34)), (none, (.slice 1 (.tmp 33) (.some (.tmp 34)) none none, .some 35)), (none, (.mov (.tmp 2), .some 36)), (none, (.call (.func 61) [.tmp 35, .tmp 36], .some 37)), (none, (.mov (.tmp 37), .some 32)), (none, (.ext (.tmp 32) 0, .some 38)), (none, (.ext (.tmp 32) 1, .some 39)), (none, (.ext (.tmp 32) 2, .some 40)), (none, (.new [.int .i64 0, .int .i64 0], .some 13)), (none, (.mov (.tmp 38), .some 11)), (none, (.mov (.tmp 39), .some 12)), (none, (.store 2 (.tmp 13) (.tmp 40), none))] []) (.seq
  (.reg [(none, (.load (.some 2) (.tmp 13), .some 41)), (none, (.call (.func 94) [.tmp 41], .some 42))] []) (.cond (.tmp 42) (.seq
  (.reg [(none, (.mov (.tmp 8), .some 43)), (none, (.mov (.tmp 43), .some 6)), (none, (.mov (.const (.bool .true)), .some 7))] []) .ret) .skip)))))
  (.reg [(none, (.mov (.tmp 8), .some 20)), (none, (.bin .add (.tmp 20) (.const (.int .i64 1)), .some 21)), (none, (.mov (.tmp 21), .some 8))] [])))))) (.seq
  (.reg [(none, (.mov (.const (.int .i64 0)), .some 6)), (none, (.mov (.const (.bool .false)), .some 7))] []) .ret))
theorem b67 : Try.f67.body.bind (compC Try.prog) = some c67 := by kernel_rfl
theorem r67 : compR Try.prog Try.f67 = .some [.tmp 6, .tmp 7] := by kernel_rfl
theorem n67 : (Try.f67.name == "runtime.NumGoroutine") = false := by kernel_rfl
def c75 : C := .seq
  (.reg [(none, (.mov (.const (.bool .false)), .some 2))] []) (.seq
  (.reg [(none, (.mov (.const (.int .i64 0)), .some 3))] []) (.seq (.seq
  (.reg [(none, (.mov (.tmp 0), .some 6)), (none, (.len .false (.tmp 6), .some 7)), (none, (.mov (.const (.int .i64 0)), .some 8))] []) (.block 0 (.loop (.seq
  (.reg [(none, (.bin .lss (.tmp 8) (.tmp 7), .some 9))] []) (.seq (.cond (.tmp 9) .skip (.exit 0)) (.seq (.block 1 (.seq
  (.reg [(none, (.iadr 3 (.tmp 6) (.tmp 8), .some 10)), (none, (.load (.some 3) (.tmp 10), .some 11)), (none, (.new [.slice none 0 0, .int .i64 0, .int .i64 0], .some 5)), (none, (.store 3 (.tmp 5) (.tmp 11), none))] []) (.seq (.seq
  (.reg [(none, (.load (.some 3) (.tmp 5), .some 12)), (none, (.mov (.tmp 3), .some 13)), (none, (.call (.func 70) [.tmp 12, .tmp 13, .const (.int .i64 1048576)], .some 14)), (none, (.bin .neq (.tmp 14) (.const (.int .i64 0)), .some 15))] []) (.cond (.tmp 15) (.seq
  (.reg [(none, (.mov (.const (.bool .false)), .some 2))] []) .ret) .skip))
  (.reg [(none, (.mov (.tmp 3), .some 16)), (none, (.load (.some 3) (.tmp 5), .some 17)), (none, (.call (.func 40) [.tmp 17], .some 18)), (none, (.bin .add (.tmp 16) (.tmp 18), .some 19)), (none, (.mov (.tmp 19), .some 3))] []))))
  (.reg [(none, (.bin .add (.tmp 8) (.const (.int .i64 1)), .some 20)), (none, (.mov (.tmp 20), .some 8))] []))))))) (.seq
  (.reg [(none, (.mov (.const (.bool .true)), .some 2))] []) .ret)))
theorem b75 : Try.f75.body.bind (compC Try.prog) = some c75 := by kernel_rfl
theorem r75 : compR Try.prog Try.f75 = .some [.tmp 2] := by kernel_rfl
theorem n75 : (Try.f75.name == "runtime.NumGoroutine") = false := by kernel_rfl
def c76 : C := .seq
  (.reg [(none, (.mov (.const (.int .i64 0)), .some 2))] []) (.seq (.seq
  (.reg [(none, (.mov (.tmp 0), .some 3)), (none, (.eqp .false (.tmp 3) (.const (.pointer none)), .some 4))] []) (.cond (.tmp 4) (.seq
  (.reg [(none, (.mov (.const (.int .i64 19)), .some 2))] []) .ret) .skip)) (.seq
  (.reg [(none, (.mov (.tmp 0), .some 5)), (none, (.nilc (.tmp 5), .some 6)), (none, (.fadr 2 (.tmp 6), .some 7)), (none, (.load none (.tmp 7), .some 8)), (none, (.mov (.tmp 8), .some 2))] []) .ret))
theorem b76 : Try.f76.body.bind (compC Try.prog) = some c76 := by kernel_rfl
theorem r76 : compR Try.prog Try.f76 = .some [.tmp 2] := by kernel_rfl
theorem n76 : (Try.f76.name == "runtime.NumGoroutine") = false := by kernel_rfl
def c77 : C := .seq
  (.reg [(none, (.mov (.const (.int .i64 0)), .some 2))] []) (.seq (.seq
  (.reg [(none, (.mov (.tmp 0), .some 3)), (none, (.eqp .false (.tmp 3) (.const (.pointer none)), .some 4))] []) (.cond (.tmp 4) (.seq
  (.reg [(none, (.mov (.const (.int .i64 0)), .some 2))] []) .ret) .skip)) (.seq
  (.reg [(none, (.mov (.tmp 0), .some 5)), (none, (.nilc (.tmp 5), .some 6)), (none, (.fadr 0 (.tmp 6), .some 7)), (none, (.load none (.tmp 7), .some 8)), (none, (.mov (.tmp 0), .some 9)), (none, (.nilc (.tmp 9), .some 10)), (none, (.fadr 1 (.tmp 10), .some 11)), (none, (.load none (.tmp 11), .some 12)), (none, (.len .false (.tmp 12), .some 13)), (none, (.bin .sub (.tmp 8) (.tmp 13), .some 14)), (none, (.mov (.tmp 14), .some 2))] [(3, 7)]) .ret))
theorem b77 : Try.f77.body.bind (compC Try.prog) = some c77 := by kernel_rfl
theorem r77 : compR Try.prog Try.f77 = .some [.tmp 2] := by kernel_rfl
theorem n77 : (Try.f77.name == "runtime.NumGoroutine") = false := by kernel_rfl
def c86 : C := .reg [(none, (.mov (.tmp 0), .some 4)), (none, (.mov (.tmp 1), .some 5)), (none, (.call (.func 114) [.tmp 5], .some 6)), (none, (.call (.func 30) [.tmp 4, .tmp 6], .some 7))] []
theorem b86 : Try.f86.body.bind (compC Try.prog) = some c86 := by kernel_rfl
theorem r86 : compR Try.prog Try.f86 = .some [] := by kernel_rfl
theorem n86 : (Try.f86.name == "runtime.NumGoroutine") = false := by kernel_rfl
def c87 : C := .seq
  (.reg [(none, (.mov (.const (.int .i64 0)), .some 2))] []) (.seq
  (.reg [(none, (.mov (.const (.int .i64 0)), .some 3))] []) (.seq (.seq
  (.reg [(none, (.mov (.tmp 0), .some 6)), (none, (.len .false (.tmp 6), .some 7)), (none, (.mov (.const (.int .i64 0)), .some 8))] []) (.block 0 (.loop (.seq
  (.reg [(none, (.bin .lss (.tmp 8) (.tmp 7), .some 9))] []) (.seq (.cond (.tmp 9) .skip (.exit 0)) (.seq (.block 1 (.seq
  (.reg [(none, (.iadr 3 (.tmp 6) (.tmp 8), .some 10)), (none, (.load (.some 3) (.tmp 10), .some 11)), (none, (.new [.slice none 0 0, .int .i64 0, .int .i64 0], .some 5)), (none, (.store 3 (.tmp 5) (.tmp 11), none))] [])
  (.reg [(none, (.mov (.tmp 3), .some 12)), (none, (.fadr 0 (.tmp 5), .some 13)), (none, (.load none (.tmp 13), .some 14)), (none, (.len .false (.tmp 14), .some 15)), (none, (.call (.func 113) [.const (.int .u64 18446744073709551615)], .some 16)), (none, (.bin .mul (.const (.int .i64 2)) (.tmp 16), .some 17)), (none, (.bin .add (.tmp 15) (.tmp 17), .some 18)), (none, (.bin .add (.tmp 12) (.tmp 18), .some 19)), (none, (.mov (.tmp 19), .some 3))] [(2, 4)])))
  (.reg [(none, (.bin .add (.tmp 8) (.const (.int .i64 1)), .some 20)), (none, (.mov (.tmp 20), .some 8))] []))))))) (.seq
  (.reg [(none, (.mov (.tmp 3), .some 21)), (none, (.mov (.tmp 21), .some 2))] []) .ret)))
theorem b87 : Try.f87.body.bind (compC Try.prog) = some c87 := by kernel_rfl
theorem r87 : compR Try.prog Try.f87 = .some [.tmp 2] := by kernel_rfl
theorem n87 : (Try.f87.name == "runtime.NumGoroutine") = false := by kernel_rfl
def c88 : C := .seq
  (.reg [(none, (.mov (.const (.bool .false)), .some 6))] []) (.seq (.seq
  (.reg [(none, (.mov (.tmp 0), .some 10)), (none, (.len .false (.tmp 10), .some 11)), (none, (.mov (.tmp 1), .some 12)), (none, (.len .false (.tmp 12), .some 13)), (none, (.bin .neq (.tmp 11) (.tmp 13), .some 14))] []) (.cond (.tmp 14) (.seq
  (.reg [(none, (.mov (.const (.bool .false)), .some 6))] []) .ret) .skip)) (.seq (.seq
  (.reg [(none, (.mov (.tmp 0), .some 15)), (none, (.len .false (.tmp 15), .some 16)), (none, (.mov (.const (.int .i64 0)), .some 17))] []) (.block 0 (.loop (.seq
  (.reg [(none, (.bin .lss (.tmp 17) (.tmp 16), .some 18))] []) (.seq (.cond (.tmp 18) .skip (.exit 0)) (.seq (.block 1 (.seq
  (.reg [(none, (.mov (.tmp 17), .some 19)), (none, (.iadr 3 (.tmp 15) (.tmp 17), .some 20)), (none, (.load (.some 3) (.tmp 20), .some 21)), (none, (.new [.slice none 0 0, .int .i64 0, .int .i64 0], .some 8)), (none, (.mov (.tmp 19), .some 7)), (none, (.store 3 (.tmp 8) (.tmp 21), none))] []) (.seq
  (.reg [(none, (.mov (.tmp 1), .some 22)), (none, (.mov (.tmp 7), .some 23)), (none, (.iadr 3 (.tmp 22) (.tmp 23), .some 24)), (none, (.load (.some 3) (.tmp 24), .some 25)), (none, (.new [.slice none 0 0, .int .i64 0, .int .i64 0], .some 9)), (none, (.store 3 (.tmp 9) (.tmp 25), none))] []) (.seq
  (.reg [(none, (.mov (.tmp 2), .some 26)), (none, (.load (.some 3) (.tmp 8), .some 27)), (none, (.load (.some 3) (.tmp 9), .some 28)), (none, (.call (.tmp 26) [.tmp 27, .tmp 28], .some 29)), (none, (.un .not (.tmp 29), .some 30))] []) (.cond (.tmp 30) (.seq
  (.reg [(none, (.mov (.const (.bool .false)), .some 6))] []) .ret) .skip)))))
  (.reg [(none, (.bin .add (.tmp 17) (.const (.int .i64 1)), .some 31)), (none, (.mov (.tmp 31), .some 17))] []))))))) (.seq
  (.reg [(none, (.mov (.const (.bool .true)), .some 6))] []) .ret)))
theorem b88 : Try.f88.body.bind (compC Try.prog) = some c88 := by kernel_rfl
theorem r88 : compR Try.prog Try.f88 = .some [.tmp 6] := by kernel_rfl
theorem n88 : (Try.f88.name == "runtime.NumGoroutine") = false := by kernel_rfl
def c93 : C := .seq
  (.reg [(none, (.mov (.const (.slice none 0 0)), .some 4))] []) (.seq (.seq
  (.reg [(none, (.mov (.tmp 0), .some 5)), (none, (.mov (.tmp 1), .some 6)), (none, (.call (.func 115) [.tmp 5, .tmp 6], .some 7)), (none, (.un .not (.tmp 7), .some 8))] []) (.cond (.tmp 8) (.seq
  (.reg [(none, (.mov (.const (.slice none 0 0)), .some 4))] []) .ret) .skip)) (.seq
  (.reg [(none, (.bsl 1 [], .some 9)), (none, (.mov (.tmp 0), .some 10)), (none, (.nilc (.tmp 10), .some 11)), (none, (.fadr 0 (.tmp 11), .some 12)), (none, (.load none (.tmp 12), .some 13)), (none, (.mov (.tmp 0), .some 14)), (none, (.nilc (.tmp 14), .some 15)), (none, (.fadr 1 (.tmp 15), .some 16)), (none, (.load none (.tmp 16), .some 17)), (none, (.mov (.tmp 1), .some 18)), (none, (.bin .sub (.tmp 17) (.tmp 18), .some 19)), (none, (.mov (.tmp 0), .some 20)), (none, (.nilc (.tmp 20), .some 21)), (none, (.fadr 1 (.tmp 21), .some 22)), (none, (.load none (.tmp 22), .some 23)), (none, (.slice 1 (.tmp 13) (.some (.tmp 19)) (.some (.tmp 23)) none, .some 24)), (none, (.app 1 1 (.tmp 9) (.tmp 24), .some 25)), (none, (.mov (.tmp 25), .some 4))] [(4, 8), (4, 14), (8, 14)]) .ret))
theorem b93 : Try.f93.body.bind (compC Try.prog) = some c93 := by kernel_rfl
theorem r93 : compR Try.prog Try.f93 = .some [.tmp 4] := by kernel_rfl
theorem n93 : (Try.f93.name == "runtime.NumGoroutine") = false := by kernel_rfl
def c94 : C := .seq
  (.reg [(none, (.box (.tmp 0), .some 1)), (none, (.mov (.const (.bool .false)), .some 2))] []) (.seq
  (.reg [(none, (.fadr 0 (.tmp 1), .some 3)), (none, (.load none (.tmp 3), .some 4)), (none, (.bin .eql (.tmp 4) (.const (.int .i64 0)), .some 5)), (none, (.mov (.tmp 5), .some 2))] []) .ret)
theorem b94 : Try.f94.body.bind (compC Try.prog) = some c94 := by kernel_rfl
theorem r94 : compR Try.prog Try.f94 = .some [.tmp 2] := by kernel_rfl
theorem n94 : (Try.f94.name == "runtime.NumGoroutine") = false := by kernel_rfl
def c98 : C := .seq
  (.reg [(none, (.box (.tmp 0), .some 2)), (none, (.new [.slice none 0 0, .int .i64 0, .int .i64 0, .int .i64 0], .some 4)), (none, (.mov (.const (.slice none 0 0)), .some 5))] []) (.seq (.seq
  (.reg [(none, (.fadr 2 (.tmp 2), .some 7)), (none, (.fadr 0 (.tmp 7), .some 8)), (none, (.load none (.tmp 8), .some 9)), (none, (.bin .neq (.tmp 9) (.const (.int .i64 0)), .some 10))] []) (.cond (.tmp 10) (.seq
  (.reg [(none, (.load (.some 4) (.tmp 2), .some 11)), (none, (.store 4 (.tmp 4) (.tmp 11), none)), (none, (.mov (.const (.slice none 0 0)), .some 5))] []) .ret) .skip)) (.seq (.seq
  (.reg [(none, (.mov (.tmp 1), .some 12)), (none, (.bin .lss (.tmp 12) (.const (.int .i64 0)), .some 13))] []) (.cond (.tmp 13) (.seq
  (.reg [(none, (.load (.some 4) (.tmp 2), .some 14)), (none, (.fadr 1 (.tmp 2), .some 15)), (none, (.load none (.tmp 15), .some 16)), (none, (.call (.func 97) [.tmp 14, .const (.int .i64 17), .tmp 16], .some 17)), (none, (.store 4 (.tmp 4) (.tmp 17), none)), (none, (.mov (.const (.slice none 0 0)), .some 5))] []) .ret) .skip)) (.seq (.seq
  (.reg [(none, (.mov (.tmp 1), .some 18)), (none, (.fadr 0 (.tmp 2), .some 19)), (none, (.load none (.tmp 19), .some 20)), (none, (.len .false (.tmp 20), .some 21)), (none, (.fadr 1 (.tmp 2), .some 22)), (none, (.load none (.tmp 22), .some 23)), (none, (.bin .sub (.tmp 21) (.tmp 23), .some 24)), (none, (.bin .gtr (.tmp 18) (.tmp 24), .some 25))] []) (.cond (.tmp 25) (.seq
  (.reg [(none, (.load (.some 4) (.tmp 2), .some 26)), (none, (.fadr 0 (.tmp 2), .some 27)), (none, (.load none (.tmp 27), .some 28)), (none, (.len .false (.tmp 28), .some 29)), (none, (.call (.func 97) [.tmp 26, .const (.int .i64 1), .tmp 29], .some 30)), (none, (.store 4 (.tmp 4) (.tmp 30), none)), (none, (.mov (.const (.slice none 0 0)), .some 5))] []) .ret) .skip)) (.seq
  (.reg [(none, (.mov (.const (.slice none 0 0)), .some 6))] []) (.seq
  (.reg [(none, (.mov (.tmp 6), .some 31)), (none, (.fadr 0 (.tmp 2), .some 32)), (none, (.load none (.tmp 32), .some 33)), (none, (.fadr 1 (.tmp 2), .some 34)), (none, (.load none (.tmp 34), .some 35)), (none, (.fadr 1 (.tmp 2), .some 36)), (none, (.load none (.tmp 36), .some 37)), (none, (.mov (.tmp 1), .some 38)), (none, (.bin .add (.tmp 37) (.tmp 38), .some 39)), (none, (.slice 1 (.tmp 33) (.some (.tmp 35)) (.some (.tmp 39)) none, .some 40)), (none, (.app 1 1 (.tmp 31) (.tmp 40), .some 41)), (none, (.mov (.tmp 41), .some 6))] []) (.seq
  (.reg [(none, (.fadr 1 (.tmp 2), .some 42)), (none, (.load none (.tmp 42), .some 43)), (none, (.mov (.tmp 1), .some 44)), (none, (.bin .add (.tmp 43) (.tmp 44), .some 45)), (none, (.fadr 1 (.tmp 2), .some 46)), (none, (.store 1 (.tmp 46) (.tmp 45), none))] []) (.seq
  (.reg [(none, (.load (.some 4) (.tmp 2), .some 47)), (none, (.mov (.tmp 6), .some 48)), (none, (.store 4 (.tmp 4) (.tmp 47), none)), (none, (.mov (.tmp 48), .some 5))] []) .ret)))))))
theorem b98 : Try.f98.body.bind (compC Try.prog) = some c98 := by kernel_rfl
theorem r98 : compR Try.prog Try.f98 = .some [.cell 4 (.some 4), .tmp 5] := by kernel_rfl
theorem n98 : (Try.f98.name == "runtime.NumGoroutine") = false := by kernel_rfl
def c102 : C := .seq
  (.reg [(none, (.mov (.const (.int .u64 0)), .some 4))] []) (.seq
  (.reg [(none, (.mov (.const (.int .u64 0)), .some 5))] []) (.seq (.seq
  (.reg [(none, (.mov (.tmp 0), .some 8)), (none, (.mov (.tmp 1), .some 9)), (none, (.mx .true (.tmp 9) (.const (.int .i64 0)), .some 10)), (none, (.mx .false (.tmp 10) (.const (.int .i64 8)), .some 11)), (none, (.call (.func 93) [.tmp 8, .tmp 11], .some 12)), (none, (.len .false (.tmp 12), .some 13)), (none, (.mov (.const (.int .i64 0)), .some 14))] []) (.block 0 (.loop (.seq
  (.reg [(none, (.bin .lss (.tmp 14) (.tmp 13), .some 15))] []) (.seq (.cond (.tmp 15) .skip (.exit 0)) (.seq (.block 1 (.seq
  (.reg [(none, (.mov (.tmp 14), .some 16)), (none, (.iadr 1 (.tmp 12) (.tmp 14), .some 17)), (none, (.load none (.tmp 17), .some 18)), (none, (.mov (.tmp 16), .some 6)), (none, (.mov (.tmp 18), .some 7))] [])
  (.reg [(none, (.mov (.tmp 5), .some 19)), (none, (.mov (.tmp 7), .some 20)), (none, (.cvt .u64 (.tmp 20), .some 21)), (none, (.mov (.tmp 6), .some 22)), (none, (.bin .mul (.const (.int .i64 8)) (.tmp 22), .some 23)), (none, (.bin .shl (.tmp 21) (.tmp 23), .some 24)), (none, (.bin .or (.tmp 19) (.tmp 24), .some 25)), (none, (.mov (.tmp 25), .some 5))] [])))
  (.reg [(none, (.bin .add (.tmp 14) (.const (.int .i64 1)), .some 26)), (none, (.mov (.tmp 26), .some 14))] []))))))) (.seq
  (.reg [(none, (.mov (.tmp 5), .some 27)), (none, (.mov (.tmp 27), .some 4))] []) .ret)))
theorem b102 : Try.f102.body.bind (compC Try.prog) = some c102 := by kernel_rfl
theorem r102 : compR Try.prog Try.f102 = .some [.tmp 4] := by kernel_rfl
theorem n102 : (Try.f102.name == "runtime.NumGoroutine") = false := by kernel_rfl
def c104 : C := .seq
  (.reg [(none, (.box (.tmp 0), .some 2)), (none, (.new [.slice none 0 0, .int .i64 0, .int .i64 0, .int .i64 0], .some 4)), (none, (.mov (.const (.slice none 0 0)), .some 5))] []) (.seq
  (.reg [(none, (.load (.some 4) (.tmp 2), .some 9)), (none, (.mov (.tmp 1), .some 10)), (none, (.call (.func 107) [.tmp 9, .tmp 10], .some 11)), (none, (.mov (.tmp 11), .some 8)), (none, (.ext (.tmp 8) 0, .some 12)), (none, (.ext (.tmp 8) 1, .some 13)), (none, (.new [.slice none 0 0, .int .i64 0, .int .i64 0, .int .i64 0], .some 6)), (none, (.store 4 (.tmp 6) (.tmp 12), none)), (none, (.mov (.tmp 13), .some 7))] []) (.seq
  (.reg [(none, (.load (.some 4) (.tmp 6), .some 14)), (none, (.mov (.tmp 7), .some 15)), (none, (.call (.func 98) [.tmp 14, .tmp 15], .some 16)), (none, (.ext (.tmp 16) 0, .some 17)), (none, (.ext (.tmp 16) 1, .some 18)), (none, (.store 4 (.tmp 4) (.tmp 17), none)), (none, (.mov (.tmp 18), .some 5))] []) .ret))
theorem b104 : Try.f104.body.bind (compC Try.prog) = some c104 := by kernel_rfl
theorem r104 : compR Try.prog Try.f104 = .some [.cell 4 (.some 4), .tmp 5] := by kernel_rfl
theorem n104 : (Try.f104.name == "runtime.NumGoroutine") = false := by kernel_rfl
def c105 : C := .seq
  (.reg [(none, (.box (.tmp 0), .some 2)), (none, (.new [.slice none 0 0, .int .i64 0, .int .i64 0, .int .i64 0], .some 4)), (none, (.mov (.const (.int .u64 0)), .some 5))] []) (.seq
  (.reg [(none, (.load (.some 4) (.tmp 2), .some 11)), (none, (.mov (.tmp 1), .some 12)), (none, (.mx .true (.tmp 12) (.const (.int .i64 0)), .some 13)), (none, (.mx .false (.tmp 13) (.const (.int .i64 8)), .some 14)), (none, (.call (.func 98) [.tmp 11, .tmp 14], .some 15)), (none, (.mov (.tmp 15), .some 10)), (none, (.ext (.tmp 10) 0, .some 16)), (none, (.ext (.tmp 10) 1, .some 17)), (none, (.new [.slice none 0 0, .int .i64 0, .int .i64 0, .int .i64 0], .some 6)), (none, (.store 4 (.tmp 6) (.tmp 16), none)), (none, (.mov (.tmp 17), .some 7))] []) (.seq
  (.reg [(none, (.mov (.const (.int .u64 0)), .some 8))] []) (.seq (.seq
  (.reg [(none, (.mov (.tmp 7), .some 18)), (none, (.len .false (.tmp 18), .some 19)), (none, (.bin .sub (.tmp 19) (.const (.int .i64 1)), .some 20)), (none, (.mov (.tmp 20), .some 9))] []) (.block 0 (.loop (.seq (.seq
  (.reg [(none, (.mov (.tmp 9), .some 21)), (none, (.bin .geq (.tmp 21) (.const (.int .i64 0)), .some 22))] []) (.cond (.tmp 22) .skip (.exit 0))) (.seq (.block 1
  (.reg [(none, (.mov (.tmp 8), .some 25)), (none, (.bin .mul (.const (.int .u64 256)) (.tmp 25), .some 26)), (none, (.mov (.tmp 7), .some 27)), (none, (.mov (.tmp 9), .some 28)), (none, (.iadr 1 (.tmp 27) (.tmp 28), .some 29)), (none, (.load none (.tmp 29), .some 30)), (none, (.cvt .u64 (.tmp 30), .some 31)), (none, (.bin .add (.tmp 26) (.tmp 31), .some 32)), (none, (.mov (.tmp 32), .some 8))] []))
  (.reg [(none, (.mov (.tmp 9), .some 23)), (none, (.bin .sub (.tmp 23) (.const (.int .i64 1)), .some 24)), (none, (.mov (.tmp 24), .some 9))] [])))))) (.seq
  (.reg [(none, (.load (.some 4) (.tmp 6), .some 33)), (none, (.mov (.tmp 8), .some 34)), (none, (.store 4 (.tmp 4) (.tmp 33), none)), (none, (.mov (.tmp 34), .some 5))] []) .ret))))
theorem b105 : Try.f105.body.bind (compC Try.prog) = some c105 := by kernel_rfl
theorem r105 : compR Try.prog Try.f105 = .some [.cell 4 (.some 4), .tmp 5] := by kernel_rfl
theorem n105 : (Try.f105.name == "runtime.NumGoroutine") = false := by kernel_rfl
def c113 : C := .seq
  (.reg [(none, (.mov (.const (.int .i64 0)), .some 2))] []) (.seq
  (.reg [(none, (.mov (.const (.int .i64 1)), .some 3))] []) (.seq (.block 0 (.loop (.seq (.seq
  (.reg [(none, (.mov (.tmp 0), .some 4)), (none, (.bin .geq (.tmp 4) (.const (.int .u64 128)), .some 5))] []) (.cond (.tmp 5) .skip (.exit 0))) (.block 1 (.seq
  (.reg [(none, (.mov (.tmp 0), .some 6)), (none, (.bin .shr (.tmp 6) (.const (.int .u64 7)), .some 7)), (none, (.mov (.tmp 7), .some 0))] [])
  (.reg [(none, (.mov (.tmp 3), .some 8)), (none, (.bin .add (.tmp 8) (.const (.int .i64 1)), .some 9)), (none, (.mov (.tmp 9), .some 3))] [])))))) (.seq
  (.reg [(none, (.mov (.tmp 3), .some 10)), (none, (.mov (.tmp 10), .some 2))] []) .ret)))
theorem b113 : Try.f113.body.bind (compC Try.prog) = some c113 := by kernel_rfl
theorem r113 : compR Try.prog Try.f113 = .some [.tmp 2] := by kernel_rfl
theorem n113 : (Try.f113.name == "runtime.NumGoroutine") = false := by kernel_rfl
end Go.Proofs.Ytpjkmidjjodplaa
