/-
  The codes of the seat's functions over abstract values, each shown to be its function's own (by program: wip/tools/codes.py).
-/
import Derived.Test.YtgphhganepjaiaaA2
import Derived.Test.YtgphhganepjaiaaProg
import Derived.KernelRfl
namespace Go.Proofs.Ytgphhganepjaiaa
def c16 : C := .seq
  (.reg [(none, (.mov (.const (.bool .false)), .some 4))] []) (.seq (.seq
  (.reg [(none, (.mov (.tmp 0), .some 13)), (none, (.len .false (.tmp 13), .some 14)), (none, (.bin .gtr (.tmp 14) (.const (.int .i64 100)), .some 15))] []) (.cond (.tmp 15) (.seq
  (.reg [(none, (.call (.func 66) [], .some 16)), (none, (.mov (.tmp 16), .some 4))] []) .ret) .skip)) (.seq
  (.reg [(none, (.mov (.tmp 0), .some 17)), (none, (.call (.func 88) [.tmp 17], .some 18)), (none, (.mov (.tmp 18), .some 5))] []) (.seq
  (.reg [(none, (.mov (.tmp 0), .some 20)), (none, (.mov (.tmp 1), .some 21)), (none, (.call (.func 89) [.tmp 20, .tmp 21], .some 22)), (none, (.mov (.tmp 22), .some 19)), (none, (.ext (.tmp 19) 0, .some 23)), (none, (.ext (.tmp 19) 1, .some 24)), (none, (.mov (.tmp 23), .some 6)), (none, (.mov (.tmp 24), .some 7))] []) (.seq (.seq
  (.reg [(none, (.mov (.tmp 0), .some 25)), (none, (.call (.func 69) [.tmp 25], .some 26)), (none, (.un .not (.tmp 26), .some 27)), (none, (.mov (.tmp 27), .some 28)), (.some (28, .false), (.mov (.tmp 0), .some 29)), (.some (28, .false), (.len .false (.tmp 29), .some 30)), (.some (28, .false), (.bin .eql (.tmp 30) (.const (.int .i64 0)), .some 31)), (none, (.pick (.tmp 28) (.const (.bool .true)) (.tmp 31), .some 32))] []) (.cond (.tmp 32) (.seq
  (.reg [(none, (.mov (.tmp 5), .some 33)), (none, (.len .false (.tmp 33), .some 34)), (none, (.bin .eql (.tmp 34) (.const (.int .i64 0)), .some 35)), (none, (.mov (.tmp 35), .some 36)), (.some (36, .true), (.mov (.tmp 7), .some 37)), (.some (36, .true), (.un .not (.tmp 37), .some 38)), (none, (.pick (.tmp 36) (.tmp 38) (.const (.bool .false)), .some 39)), (none, (.mov (.tmp 39), .some 40)), (.some (40, .true), (.mov (.tmp 6), .some 41)), (.some (40, .true), (.bin .eql (.tmp 41) (.const (.int .u64 0)), .some 42)), (none, (.pick (.tmp 40) (.tmp 42) (.const (.bool .false)), .some 43)), (none, (.mov (.tmp 43), .some 44)), (.some (44, .true), (.call (.func 66) [], .some 45)), (none, (.pick (.tmp 44) (.tmp 45) (.const (.bool .false)), .some 46)), (none, (.mov (.tmp 46), .some 4))] []) .ret) .skip)) (.seq
  (.reg [(none, (.mov (.tmp 0), .some 47)), (none, (.iadr 3 (.tmp 47) (.const (.int .i64 0)), .some 48)), (none, (.fadr 0 (.tmp 48), .some 49)), (none, (.load none (.tmp 49), .some 50)), (none, (.mov (.tmp 50), .some 8)), (none, (.mov (.const (.int .i64 0)), .some 9))] []) (.seq (.seq
  (.reg [(none, (.mov (.const (.int .i64 0)), .some 10))] []) (.block 0 (.loop (.seq (.seq
  (.reg [(none, (.mov (.tmp 10), .some 51)), (none, (.mov (.tmp 0), .some 52)), (none, (.len .false (.tmp 52), .some 53)), (none, (.bin .lss (.tmp 51) (.tmp 53), .some 54))] []) (.cond (.tmp 54) .skip (.exit 0))) (.seq (.block 1 (.seq (.seq
  (.reg [(none, (.mov (.tmp 8), .some 57)), (none, (.mov (.tmp 0), .some 58)), (none, (.mov (.tmp 10), .some 59)), (none, (.iadr 3 (.tmp 58) (.tmp 59), .some 60)), (none, (.fadr 0 (.tmp 60), .some 61)), (none, (.load none (.tmp 61), .some 62)), (none, (.bin .lss (.tmp 57) (.tmp 62), .some 63))] []) (.cond (.tmp 63) (.seq (.seq
  (.reg [(none, (.mov (.tmp 9), .some 64)), (none, (.mov (.tmp 5), .some 65)), (none, (.len .false (.tmp 65), .some 66)), (none, (.bin .geq (.tmp 64) (.tmp 66), .some 67)), (none, (.mov (.tmp 67), .some 68)), (.some (68, .false), (.mov (.tmp 5), .some 69)), (.some (68, .false), (.mov (.tmp 9), .some 70)), (.some (68, .false), (.iadr 2 (.tmp 69) (.tmp 70), .some 71)), (.some (68, .false), (.load (.some 2) (.tmp 71), .some 72)), (.some (68, .false), (.mov (.tmp 8), .some 73)), (.some (68, .false), (.mov (.tmp 0), .some 74)), (.some (68, .false), (.mov (.tmp 10), .some 75)), (.some (68, .false), (.iadr 3 (.tmp 74) (.tmp 75), .some 76)), (.some (68, .false), (.fadr 0 (.tmp 76), .some 77)), (.some (68, .false), (.load none (.tmp 77), .some 78)), (.some (68, .false), (.build [.int .u64 0, .int .u64 0] [(0, (1, .tmp 73)), (1, (1, .tmp 78))], .some 79)), (.some (68, .false), (.eqa .true 2 (.tmp 72) (.tmp 79), .some 80)), (none, (.pick (.tmp 68) (.const (.bool .true)) (.tmp 80), .some 81))] [(8, 14)]) (.cond (.tmp 81) (.seq
  (.reg [(none, (.mov (.const (.bool .false)), .some 4))] []) .ret) .skip))
  (.reg [(none, (.mov (.tmp 9), .some 82)), (none, (.bin .add (.tmp 82) (.const (.int .i64 1)), .some 83)), (none, (.mov (.tmp 83), .some 9))] [])) .skip))
  (.reg [(none, (.mov (.tmp 0), .some 84)), (none, (.mov (.tmp 10), .some 85)), (none, (.iadr 3 (.tmp 84) (.tmp 85), .some 86)), (none, (.fadr 0 (.tmp 86), .some 87)), (none, (.load none (.tmp 87), .some 88)), (none, (.mov (.tmp 0), .some 89)), (none, (.mov (.tmp 10), .some 90)), (none, (.iadr 3 (.tmp 89) (.tmp 90), .some 91)), (none, (.fadr 1 (.tmp 91), .some 92)), (none, (.load none (.tmp 92), .some 93)), (none, (.cvt .u64 (.tmp 93), .some 94)), (none, (.bin .add (.tmp 88) (.tmp 94), .some 95)), (none, (.mov (.tmp 95), .some 8))] [(4, 9)])))
  (.reg [(none, (.mov (.tmp 10), .some 55)), (none, (.bin .add (.tmp 55) (.const (.int .i64 1)), .some 56)), (none, (.mov (.tmp 56), .some 10))] [])))))) (.seq (.seq
  (.reg [(none, (.mov (.tmp 9), .some 96)), (none, (.mov (.tmp 5), .some 97)), (none, (.len .false (.tmp 97), .some 98)), (none, (.bin .neq (.tmp 96) (.tmp 98), .some 99)), (none, (.mov (.tmp 99), .some 100)), (.some (100, .false), (.mov (.tmp 7), .some 101)), (.some (100, .false), (.mov (.tmp 1), .some 102)), (.some (100, .false), (.mov (.tmp 8), .some 103)), (.some (100, .false), (.bin .lss (.tmp 102) (.tmp 103), .some 104)), (.some (100, .false), (.eqb .true (.tmp 101) (.tmp 104), .some 105)), (none, (.pick (.tmp 100) (.const (.bool .true)) (.tmp 105), .some 106))] []) (.cond (.tmp 106) (.seq
  (.reg [(none, (.mov (.const (.bool .false)), .some 4))] []) .ret) .skip)) (.seq (.seq
  (.reg [(none, (.mov (.tmp 7), .some 107)), (none, (.un .not (.tmp 107), .some 108))] []) (.cond (.tmp 108) (.seq
  (.reg [(none, (.mov (.tmp 6), .some 109)), (none, (.bin .eql (.tmp 109) (.const (.int .u64 0)), .some 110)), (none, (.mov (.tmp 110), .some 111)), (.some (111, .true), (.call (.func 66) [], .some 112)), (none, (.pick (.tmp 111) (.tmp 112) (.const (.bool .false)), .some 113)), (none, (.mov (.tmp 113), .some 4))] []) .ret) .skip)) (.seq
  (.reg [(none, (.mov (.tmp 6), .some 114)), (none, (.mov (.tmp 1), .some 115)), (none, (.bin .gtr (.tmp 114) (.tmp 115), .some 116)), (none, (.mov (.tmp 116), .some 11))] []) (.seq (.seq
  (.reg [(none, (.mov (.const (.int .i64 0)), .some 12))] []) (.block 2 (.loop (.seq (.seq
  (.reg [(none, (.mov (.tmp 12), .some 117)), (none, (.mov (.tmp 0), .some 118)), (none, (.len .false (.tmp 118), .some 119)), (none, (.bin .lss (.tmp 117) (.tmp 119), .some 120))] []) (.cond (.tmp 120) .skip (.exit 2))) (.seq (.block 3 (.seq (.seq
  (.reg [(none, (.mov (.tmp 1), .some 123)), (none, (.mov (.tmp 0), .some 124)), (none, (.mov (.tmp 12), .some 125)), (none, (.iadr 3 (.tmp 124) (.tmp 125), .some 126)), (none, (.fadr 0 (.tmp 126), .some 127)), (none, (.load none (.tmp 127), .some 128)), (none, (.bin .geq (.tmp 123) (.tmp 128), .some 129)), (none, (.mov (.tmp 129), .some 130)), (.some (130, .true), (.mov (.tmp 1), .some 131)), (.some (130, .true), (.mov (.tmp 0), .some 132)), (.some (130, .true), (.mov (.tmp 12), .some 133)), (.some (130, .true), (.iadr 3 (.tmp 132) (.tmp 133), .some 134)), (.some (130, .true), (.fadr 0 (.tmp 134), .some 135)), (.some (130, .true), (.load none (.tmp 135), .some 136)), (.some (130, .true), (.mov (.tmp 0), .some 137)), (.some (130, .true), (.mov (.tmp 12), .some 138)), (.some (130, .true), (.iadr 3 (.tmp 137) (.tmp 138), .some 139)), (.some (130, .true), (.fadr 1 (.tmp 139), .some 140)), (.some (130, .true), (.load none (.tmp 140), .some 141)), (.some (130, .true), (.cvt .u64 (.tmp 141), .some 142)), (.some (130, .true), (.bin .add (.tmp 136) (.tmp 142), .some 143)), (.some (130, .true), (.bin .lss (.tmp 131) (.tmp 143), .some 144)), (none, (.pick (.tmp 130) (.tmp 144) (.const (.bool .false)), .some 145))] [(13, 18)]) (.cond (.tmp 145)
  (.reg [(none, (.mov (.tmp 6), .some 146)), (none, (.mov (.tmp 1), .some 147)), (none, (.bin .eql (.tmp 146) (.tmp 147), .some 148)), (none, (.mov (.tmp 148), .some 11))] []) .skip)) (.seq
  (.reg [(none, (.mov (.tmp 0), .some 149)), (none, (.mov (.tmp 12), .some 150)), (none, (.iadr 3 (.tmp 149) (.tmp 150), .some 151)), (none, (.fadr 0 (.tmp 151), .some 152)), (none, (.load none (.tmp 152), .some 153)), (none, (.mov (.tmp 1), .some 154)), (none, (.bin .gtr (.tmp 153) (.tmp 154), .some 155)), (none, (.mov (.tmp 155), .some 156)), (.some (156, .true), (.mov (.tmp 0), .some 157)), (.some (156, .true), (.mov (.tmp 12), .some 158)), (.some (156, .true), (.iadr 3 (.tmp 157) (.tmp 158), .some 159)), (.some (156, .true), (.fadr 0 (.tmp 159), .some 160)), (.some (156, .true), (.load none (.tmp 160), .some 161)), (.some (156, .true), (.mov (.tmp 6), .some 162)), (.some (156, .true), (.bin .lss (.tmp 161) (.tmp 162), .some 163)), (none, (.pick (.tmp 156) (.tmp 163) (.const (.bool .false)), .some 164))] []) (.cond (.tmp 164) (.seq
  (.reg [(none, (.mov (.const (.bool .false)), .some 4))] []) .ret) .skip))))
  (.reg [(none, (.mov (.tmp 12), .some 121)), (none, (.bin .add (.tmp 121) (.const (.int .i64 1)), .some 122)), (none, (.mov (.tmp 122), .some 12))] [])))))) (.seq
  (.reg [(none, (.mov (.tmp 11), .some 165)), (none, (.mov (.tmp 165), .some 166)), (.some (166, .true), (.mov (.tmp 0), .some 167)), (.some (166, .true), (.mov (.tmp 6), .some 168)), (.some (166, .true), (.call (.func 71) [.tmp 167, .tmp 168], .some 169)), (.some (166, .true), (.bin .geq (.tmp 169) (.const (.int .i64 0)), .some 170)), (none, (.pick (.tmp 166) (.tmp 170) (.const (.bool .false)), .some 171)), (none, (.mov (.tmp 171), .some 172)), (.some (172, .true), (.call (.func 66) [], .some 173)), (none, (.pick (.tmp 172) (.tmp 173) (.const (.bool .false)), .some 174)), (none, (.mov (.tmp 174), .some 4))] []) .ret)))))))))))
theorem b16 : Try.f16.body.bind (compC Try.prog) = some c16 := by kernel_rfl
theorem r16 : compR Try.prog Try.f16 = .some [.tmp 4] := by kernel_rfl
theorem n16 : (Try.f16.name == "runtime.NumGoroutine") = false := by kernel_rfl
def c42 : C := .seq
  (.reg [(none, (.mov (.const (.slice none 0 0)), .some 2))] []) (.seq (.seq
  (.reg [(none, (.mov (.tmp 0), .some 3)), (none, (.bin .lss (.tmp 3) (.const (.int .u64 128)), .some 4))] []) (.cond (.tmp 4) (.seq
  (.reg [(none, (.mov (.tmp 0), .some 5)), (none, (.cvt .u8 (.tmp 5), .some 6)), (none, (.bsl 1 [.tmp 6], .some 7)), (none, (.mov (.tmp 7), .some 2))] []) .ret) .skip)) (.seq
  (.reg [(none, (.mov (.tmp 0), .some 8)), (none, (.bin .rem (.tmp 8) (.const (.int .u64 128)), .some 9)), (none, (.bin .add (.const (.int .u64 128)) (.tmp 9), .some 10)), (none, (.cvt .u8 (.tmp 10), .some 11)), (none, (.bsl 1 [.tmp 11], .some 12)), (none, (.mov (.tmp 0), .some 13)), (none, (.bin .quo (.tmp 13) (.const (.int .u64 128)), .some 14)), (none, (.call (.func 42) [.tmp 14], .some 15)), (none, (.app 1 1 (.tmp 12) (.tmp 15), .some 16)), (none, (.mov (.tmp 16), .some 2))] []) .ret))
theorem b42 : Try.f42.body.bind (compC Try.prog) = some c42 := by kernel_rfl
theorem r42 : compR Try.prog Try.f42 = .some [.tmp 2] := by kernel_rfl
theorem n42 : (Try.f42.name == "runtime.NumGoroutine") = false := by kernel_rfl
def c66 : C := .seq
  (.reg [(none, (.mov (.const (.bool .false)), .some 0))] []) (.seq
  (.reg [(none, (.build [.int .u64 0, .int .i64 0, .int .i64 0] [(0, (1, .const (.int .u64 5))), (1, (1, .const (.int .i64 3))), (2, (1, .const (.int .i64 10)))], .some 4)), (none, (.build [.int .u64 0, .int .i64 0, .int .i64 0] [(0, (1, .const (.int .u64 9))), (1, (1, .const (.int .i64 1))), (2, (1, .const (.int .i64 40)))], .some 5)), (none, (.bsl 3 [.tmp 4, .tmp 5], .some 6)), (none, (.call (.func 118) [.tmp 6], .some 7)), (none, (.mov (.tmp 7), .some 3)), (none, (.ext (.tmp 3) 0, .some 8)), (none, (.ext (.tmp 3) 1, .some 9)), (none, (.mov (.tmp 8), .some 1)), (none, (.mov (.tmp 9), .some 2))] []) (.seq
  (.reg [(none, (.mov (.tmp 2), .some 10)), (none, (.bin .eql (.tmp 10) (.const (.int .i64 0)), .some 11)), (none, (.mov (.tmp 11), .some 12)), (.some (12, .true), (.mov (.tmp 1), .some 13)), (.some (12, .true), (.bsl 1 [.const (.int .u8 2), .const (.int .u8 5), .const (.int .u8 3), .const (.int .u8 9), .const (.int .u8 1), .const (.int .u8 1), .const (.int .u8 29)], .some 14)), (.some (12, .true), (.call (.func 41) [.tmp 13, .tmp 14], .some 15)), (none, (.pick (.tmp 12) (.tmp 15) (.const (.bool .false)), .some 16)), (none, (.mov (.tmp 16), .some 0))] []) .ret))
theorem b66 : Try.f66.body.bind (compC Try.prog) = some c66 := by kernel_rfl
theorem r66 : compR Try.prog Try.f66 = .some [.tmp 0] := by kernel_rfl
theorem n66 : (Try.f66.name == "runtime.NumGoroutine") = false := by kernel_rfl
def c73 : C := .seq
  (.reg [(none, (.mov (.const (.pointer none)), .some 2))] []) (.seq
  (.reg [(none, (.mov (.tmp 0), .some 3)), (none, (.mov (.tmp 0), .some 4)), (none, (.len .false (.tmp 4), .some 5)), (none, (.mov (.tmp 0), .some 6)), (none, (.len .false (.tmp 6), .some 7)), (none, (.slice 1 (.tmp 3) none (.some (.tmp 5)) (.some (.tmp 7)), .some 8)), (none, (.build [.slice none 0 0, .int .i64 0, .int .i64 0, .int .i64 0] [(0, (1, .tmp 8))], .some 9)), (none, (.box (.tmp 9), .some 10)), (none, (.mov (.tmp 10), .some 2))] []) .ret)
theorem b73 : Try.f73.body.bind (compC Try.prog) = some c73 := by kernel_rfl
theorem r73 : compR Try.prog Try.f73 = .some [.tmp 2] := by kernel_rfl
theorem n73 : (Try.f73.name == "runtime.NumGoroutine") = false := by kernel_rfl
def c84 : C := .seq
  (.reg [(none, (.box (.tmp 0), .some 2)), (none, (.new [.slice none 0 0, .int .i64 0, .int .i64 0, .int .i64 0], .some 4)), (none, (.mov (.const (.int .i64 0)), .some 5))] []) (.seq (.seq
  (.reg [(none, (.mov (.tmp 1), .some 10)), (none, (.bin .geq (.tmp 10) (.const (.int .i64 0)), .some 11))] []) (.cond (.tmp 11) (.seq
  (.reg [(none, (.load (.some 4) (.tmp 2), .some 13)), (none, (.mov (.tmp 1), .some 14)), (none, (.cvt .u64 (.tmp 14), .some 15)), (none, (.call (.func 83) [.tmp 13, .tmp 15], .some 16)), (none, (.mov (.tmp 16), .some 12)), (none, (.ext (.tmp 12) 0, .some 17)), (none, (.ext (.tmp 12) 1, .some 18)), (none, (.new [.slice none 0 0, .int .i64 0, .int .i64 0, .int .i64 0], .some 6)), (none, (.store 4 (.tmp 6) (.tmp 17), none)), (none, (.mov (.tmp 18), .some 7))] []) (.seq
  (.reg [(none, (.load (.some 4) (.tmp 6), .some 19)), (none, (.mov (.tmp 7), .some 20)), (none, (.cvt .i64 (.tmp 20), .some 21)), (none, (.store 4 (.tmp 4) (.tmp 19), none)), (none, (.mov (.tmp 21), .some 5))] []) .ret)) .skip)) (.seq
  (.reg [(none, (.load (.some 4) (.tmp 2), .some 23)), (none, (.call (.func 82) [.tmp 23], .some 24)), (none, (.mov (.tmp 24), .some 22)), (none, (.ext (.tmp 22) 0, .some 25)), (none, (.ext (.tmp 22) 1, .some 26)), (none, (.new [.slice none 0 0, .int .i64 0, .int .i64 0, .int .i64 0], .some 8)), (none, (.store 4 (.tmp 8) (.tmp 25), none)), (none, (.mov (.tmp 26), .some 9))] []) (.seq
  (.reg [(none, (.load (.some 4) (.tmp 8), .some 27)), (none, (.fadr 1 (.tmp 2), .some 28)), (none, (.load none (.tmp 28), .some 29)), (none, (.call (.func 129) [.tmp 27, .const (.int .i64 2), .tmp 29], .some 30)), (none, (.store 4 (.tmp 4) (.tmp 30), none)), (none, (.mov (.const (.int .i64 0)), .some 5))] []) .ret)))
theorem b84 : Try.f84.body.bind (compC Try.prog) = some c84 := by kernel_rfl
theorem r84 : compR Try.prog Try.f84 = .some [.cell 4 (.some 4), .tmp 5] := by kernel_rfl
theorem n84 : (Try.f84.name == "runtime.NumGoroutine") = false := by kernel_rfl
def c85 : C := .seq
  (.reg [(none, (.mov (.const (.int .u64 0)), .some 2))] []) (.scope (.seq
  (.reg [(none, (.mov (.const (.int .u64 0)), .some 3))] []) (.seq
  (.reg [(none, (.mov (.const (.int .u8 0)), .some 4))] []) (.seq
  (.reg [(none, (.mov (.tmp 0), .some 7)), (none, (.call (.func 79) [.tmp 7], .some 8)), (none, (.mov (.const (.int .i64 0)), .some 5)), (none, (.mov (.tmp 8), .some 6))] []) (.seq (.label 0) (.seq
  (.reg [(none, (.mov (.tmp 0), .some 9)), (none, (.call (.func 133) [.tmp 9], .some 10)), (none, (.mov (.tmp 10), .some 4))] []) (.seq (.block 0 (.seq
  (.reg [(none, (.mov (.tmp 0), .some 12)), (none, (.call (.func 102) [.tmp 12], .some 13)), (none, (.un .not (.tmp 13), .some 14)), (none, (.mov (.tmp 14), .some 11))] []) (.cond (.tmp 11) (.seq
  (.reg [(none, (.mov (.const (.int .u64 0)), .some 2))] []) .ret) (.seq
  (.reg [(none, (.mov (.tmp 5), .some 16)), (none, (.bin .eql (.tmp 16) (.const (.int .i64 63)), .some 17)), (none, (.mov (.tmp 17), .some 18)), (.some (18, .true), (.mov (.tmp 4), .some 19)), (.some (18, .true), (.bin .gtr (.tmp 19) (.const (.int .u8 1)), .some 20)), (none, (.pick (.tmp 18) (.tmp 20) (.const (.bool .false)), .some 21)), (none, (.mov (.tmp 21), .some 15))] []) (.cond (.tmp 15) (.seq
  (.reg [(none, (.mov (.tmp 0), .some 22)), (none, (.mov (.tmp 0), .some 23)), (none, (.call (.func 79) [.tmp 23], .some 24)), (none, (.bin .sub (.tmp 24) (.const (.int .i64 1)), .some 25)), (none, (.call (.func 132) [.tmp 22, .const (.int .i64 5), .tmp 25], .some 26))] []) (.seq
  (.reg [(none, (.mov (.const (.int .u64 0)), .some 2))] []) .ret)) (.seq
  (.reg [(none, (.mov (.tmp 4), .some 28)), (none, (.bin .eql (.tmp 28) (.const (.int .u8 0)), .some 29)), (none, (.mov (.tmp 29), .some 30)), (.some (30, .true), (.mov (.tmp 0), .some 31)), (.some (30, .true), (.call (.func 79) [.tmp 31], .some 32)), (.some (30, .true), (.bin .sub (.tmp 32) (.const (.int .i64 1)), .some 33)), (.some (30, .true), (.mov (.tmp 6), .some 34)), (.some (30, .true), (.bin .gtr (.tmp 33) (.tmp 34), .some 35)), (none, (.pick (.tmp 30) (.tmp 35) (.const (.bool .false)), .some 36)), (none, (.mov (.tmp 36), .some 27))] []) (.cond (.tmp 27) (.seq
  (.reg [(none, (.mov (.tmp 0), .some 37)), (none, (.mov (.tmp 0), .some 38)), (none, (.call (.func 79) [.tmp 38], .some 39)), (none, (.bin .sub (.tmp 39) (.const (.int .i64 1)), .some 40)), (none, (.call (.func 132) [.tmp 37, .const (.int .i64 4), .tmp 40], .some 41))] []) (.seq
  (.reg [(none, (.mov (.const (.int .u64 0)), .some 2))] []) .ret)) .skip))))))) (.seq
  (.reg [(none, (.mov (.tmp 3), .some 42)), (none, (.mov (.tmp 4), .some 43)), (none, (.bin .rem (.tmp 43) (.const (.int .u8 128)), .some 44)), (none, (.cvt .u64 (.tmp 44), .some 45)), (none, (.mov (.tmp 5), .some 46)), (none, (.bin .shl (.tmp 45) (.tmp 46), .some 47)), (none, (.bin .or (.tmp 42) (.tmp 47), .some 48)), (none, (.mov (.tmp 48), .some 3))] []) (.seq
  (.reg [(none, (.mov (.tmp 5), .some 49)), (none, (.bin .add (.tmp 49) (.const (.int .i64 7)), .some 50)), (none, (.mov (.tmp 50), .some 5))] []) (.seq (.seq
  (.reg [(none, (.mov (.tmp 4), .some 51)), (none, (.bin .geq (.tmp 51) (.const (.int .u8 128)), .some 52))] []) (.cond (.tmp 52) (.goto 0) .skip)) (.seq
  (.reg [(none, (.mov (.tmp 3), .some 53)), (none, (.mov (.tmp 53), .some 2))] []) .ret)))))))))))
theorem b85 : Try.f85.body.bind (compC Try.prog) = some c85 := by kernel_rfl
theorem r85 : compR Try.prog Try.f85 = .some [.tmp 2] := by kernel_rfl
theorem n85 : (Try.f85.name == "runtime.NumGoroutine") = false := by kernel_rfl
def c87 : C := .seq
  (.reg [(none, (.mov (.const (.int .i64 0)), .some 4))] []) (.seq (.seq
  (.reg [(none, (.mov (.tmp 1), .some 6)), (none, (.bin .geq (.tmp 6) (.const (.int .i64 0)), .some 7))] []) (.cond (.tmp 7) (.seq
  (.reg [(none, (.mov (.tmp 0), .some 8)), (none, (.mov (.tmp 1), .some 9)), (none, (.cvt .u64 (.tmp 9), .some 10)), (none, (.call (.func 86) [.tmp 8, .tmp 10], .some 11)), (none, (.cvt .i64 (.tmp 11), .some 12)), (none, (.mov (.tmp 12), .some 4))] []) .ret) .skip)) (.seq
  (.reg [(none, (.mov (.tmp 0), .some 13)), (none, (.call (.func 79) [.tmp 13], .some 14)), (none, (.mov (.tmp 14), .some 5))] []) (.seq
  (.reg [(none, (.mov (.tmp 0), .some 15)), (none, (.call (.func 85) [.tmp 15], .some 16))] []) (.seq
  (.reg [(none, (.mov (.tmp 0), .some 17)), (none, (.mov (.tmp 5), .some 18)), (none, (.call (.func 132) [.tmp 17, .const (.int .i64 2), .tmp 18], .some 19))] []) (.seq
  (.reg [(none, (.mov (.const (.int .i64 0)), .some 4))] []) .ret)))))
theorem b87 : Try.f87.body.bind (compC Try.prog) = some c87 := by kernel_rfl
theorem r87 : compR Try.prog Try.f87 = .some [.tmp 4] := by kernel_rfl
theorem n87 : (Try.f87.name == "runtime.NumGoroutine") = false := by kernel_rfl
def c117 : C := .seq
  (.reg [(none, (.mov (.const (.slice none 0 0)), .some 2))] []) (.seq
  (.reg [(none, (.mov (.tmp 0), .some 7)), (none, (.len .false (.tmp 7), .some 8)), (none, (.cvt .u8 (.tmp 8), .some 9)), (none, (.bsl 1 [.tmp 9], .some 10)), (none, (.mov (.tmp 10), .some 3))] []) (.seq (.seq
  (.reg [(none, (.mov (.const (.int .i64 0)), .some 4))] []) (.block 0 (.loop (.seq (.seq
  (.reg [(none, (.mov (.tmp 4), .some 11)), (none, (.mov (.tmp 0), .some 12)), (none, (.len .false (.tmp 12), .some 13)), (none, (.bin .lss (.tmp 11) (.tmp 13), .some 14))] []) (.cond (.tmp 14) .skip (.exit 0))) (.seq (.block 1 (.seq
  (.reg [(none, (.mov (.tmp 0), .some 17)), (none, (.mov (.tmp 4), .some 18)), (none, (.iadr 3 (.tmp 17) (.tmp 18), .some 19)), (none, (.fadr 0 (.tmp 19), .some 20)), (none, (.load none (.tmp 20), .some 21)), (none, (.mov (.tmp 0), .some 22)), (none, (.mov (.tmp 4), .some 23)), (none, (.iadr 3 (.tmp 22) (.tmp 23), .some 24)), (none, (.fadr 2 (.tmp 24), .some 25)), (none, (.load none (.tmp 25), .some 26)), (none, (.mov (.tmp 21), .some 5)), (none, (.mov (.tmp 26), .some 6))] [(4, 9)]) (.seq (.seq
  (.reg [(none, (.mov (.tmp 4), .some 27)), (none, (.bin .gtr (.tmp 27) (.const (.int .i64 0)), .some 28))] []) (.cond (.tmp 28) (.seq
  (.reg [(none, (.mov (.tmp 5), .some 29)), (none, (.mov (.tmp 0), .some 30)), (none, (.mov (.tmp 4), .some 31)), (none, (.bin .sub (.tmp 31) (.const (.int .i64 1)), .some 32)), (none, (.iadr 3 (.tmp 30) (.tmp 32), .some 33)), (none, (.fadr 0 (.tmp 33), .some 34)), (none, (.load none (.tmp 34), .some 35)), (none, (.bin .sub (.tmp 29) (.tmp 35), .some 36)), (none, (.mov (.tmp 0), .some 37)), (none, (.mov (.tmp 4), .some 38)), (none, (.bin .sub (.tmp 38) (.const (.int .i64 1)), .some 39)), (none, (.iadr 3 (.tmp 37) (.tmp 39), .some 40)), (none, (.fadr 1 (.tmp 40), .some 41)), (none, (.load none (.tmp 41), .some 42)), (none, (.cvt .u64 (.tmp 42), .some 43)), (none, (.bin .sub (.tmp 36) (.tmp 43), .some 44)), (none, (.mov (.tmp 44), .some 5))] [(6, 13)])
  (.reg [(none, (.mov (.tmp 6), .some 45)), (none, (.mov (.tmp 0), .some 46)), (none, (.mov (.tmp 4), .some 47)), (none, (.bin .sub (.tmp 47) (.const (.int .i64 1)), .some 48)), (none, (.iadr 3 (.tmp 46) (.tmp 48), .some 49)), (none, (.fadr 2 (.tmp 49), .some 50)), (none, (.load none (.tmp 50), .some 51)), (none, (.bin .sub (.tmp 45) (.tmp 51), .some 52)), (none, (.mov (.tmp 52), .some 6))] [])) .skip)) (.seq
  (.reg [(none, (.mov (.tmp 3), .some 53)), (none, (.mov (.tmp 5), .some 54)), (none, (.call (.func 42) [.tmp 54], .some 55)), (none, (.app 1 1 (.tmp 53) (.tmp 55), .some 56)), (none, (.mov (.tmp 56), .some 3))] []) (.seq
  (.reg [(none, (.mov (.tmp 3), .some 57)), (none, (.mov (.tmp 0), .some 58)), (none, (.mov (.tmp 4), .some 59)), (none, (.iadr 3 (.tmp 58) (.tmp 59), .some 60)), (none, (.fadr 1 (.tmp 60), .some 61)), (none, (.load none (.tmp 61), .some 62)), (none, (.cvt .u8 (.tmp 62), .some 63)), (none, (.bsl 1 [.tmp 63], .some 64)), (none, (.app 1 1 (.tmp 57) (.tmp 64), .some 65)), (none, (.mov (.tmp 65), .some 3))] [])
  (.reg [(none, (.mov (.tmp 3), .some 66)), (none, (.mov (.tmp 6), .some 67)), (none, (.bin .sub (.tmp 67) (.const (.int .i64 1)), .some 68)), (none, (.cvt .u64 (.tmp 68), .some 69)), (none, (.call (.func 42) [.tmp 69], .some 70)), (none, (.app 1 1 (.tmp 66) (.tmp 70), .some 71)), (none, (.mov (.tmp 71), .some 3))] []))))))
  (.reg [(none, (.mov (.tmp 4), .some 15)), (none, (.bin .add (.tmp 15) (.const (.int .i64 1)), .some 16)), (none, (.mov (.tmp 16), .some 4))] [])))))) (.seq
  (.reg [(none, (.mov (.tmp 3), .some 72)), (none, (.mov (.tmp 72), .some 2))] []) .ret)))
theorem b117 : Try.f117.body.bind (compC Try.prog) = some c117 := by kernel_rfl
theorem r117 : compR Try.prog Try.f117 = .some [.tmp 2] := by kernel_rfl
theorem n117 : (Try.f117.name == "runtime.NumGoroutine") = false := by kernel_rfl
def c118 : C := .seq
  (.reg [(none, (.mov (.const (.slice none 0 0)), .some 2)), (none, (.mov (.const (.int .i64 0)), .some 3))] []) (.seq
  (.reg [(none, (.call (.func 37) [.const (.int .i64 1024)], .some 5)), (none, (.mov (.tmp 5), .some 4))] []) (.seq
  (.reg [(none, (.mov (.tmp 4), .some 6)), (none, (.mov (.tmp 0), .some 7)), (none, (.call (.func 119) [.tmp 6, .tmp 7], .some 8))] []) (.seq
  (.reg [(none, (.mov (.tmp 4), .some 9)), (none, (.call (.func 40) [.tmp 9], .some 10)), (none, (.ext (.tmp 10) 0, .some 11)), (none, (.ext (.tmp 10) 1, .some 12)), (none, (.mov (.tmp 11), .some 2)), (none, (.mov (.tmp 12), .some 3))] []) .ret)))
theorem b118 : Try.f118.body.bind (compC Try.prog) = some c118 := by kernel_rfl
theorem r118 : compR Try.prog Try.f118 = .some [.tmp 2, .tmp 3] := by kernel_rfl
theorem n118 : (Try.f118.name == "runtime.NumGoroutine") = false := by kernel_rfl
def c120 : C := .seq
  (.reg [(none, (.mov (.const (.bool .false)), .some 2))] []) (.seq
  (.reg [(none, (.mov (.const (.int .u64 0)), .some 3))] []) (.seq
  (.reg [(none, (.mov (.const (.int .i64 0)), .some 4))] []) (.seq (.seq
  (.reg [(none, (.mov (.tmp 0), .some 7)), (none, (.len .false (.tmp 7), .some 8)), (none, (.mov (.const (.int .i64 0)), .some 9))] []) (.block 0 (.loop (.seq
  (.reg [(none, (.bin .lss (.tmp 9) (.tmp 8), .some 10))] []) (.seq (.cond (.tmp 10) .skip (.exit 0)) (.seq (.block 1 (.seq
  (.reg [(none, (.iadr 3 (.tmp 7) (.tmp 9), .some 11)), (none, (.load (.some 3) (.tmp 11), .some 12)), (none, (.new [.int .u64 0, .int .i64 0, .int .i64 0], .some 6)), (none, (.store 3 (.tmp 6) (.tmp 12), none))] []) (.seq (.seq
  (.reg [(none, (.load (.some 3) (.tmp 6), .some 13)), (none, (.mov (.tmp 3), .some 14)), (none, (.mov (.tmp 4), .some 15)), (none, (.call (.func 141) [.tmp 13, .tmp 14, .tmp 15], .some 16)), (none, (.un .not (.tmp 16), .some 17))] []) (.cond (.tmp 17) (.seq
  (.reg [(none, (.mov (.const (.bool .false)), .some 2))] []) .ret) .skip))
  (.reg [(none, (.load (.some 3) (.tmp 6), .some 18)), (none, (.call (.func 126) [.tmp 18], .some 19)), (none, (.fadr 2 (.tmp 6), .some 20)), (none, (.load none (.tmp 20), .some 21)), (none, (.mov (.tmp 19), .some 3)), (none, (.mov (.tmp 21), .some 4))] [(0, 3), (1, 3)]))))
  (.reg [(none, (.bin .add (.tmp 9) (.const (.int .i64 1)), .some 22)), (none, (.mov (.tmp 22), .some 9))] []))))))) (.seq
  (.reg [(none, (.mov (.tmp 0), .some 23)), (none, (.len .false (.tmp 23), .some 24)), (none, (.bin .leq (.tmp 24) (.const (.int .i64 16)), .some 25)), (none, (.mov (.tmp 25), .some 2))] []) .ret))))
theorem b120 : Try.f120.body.bind (compC Try.prog) = some c120 := by kernel_rfl
theorem r120 : compR Try.prog Try.f120 = .some [.tmp 2] := by kernel_rfl
theorem n120 : (Try.f120.name == "runtime.NumGoroutine") = false := by kernel_rfl
def c121 : C := .seq
  (.reg [(none, (.mov (.const (.bool .false)), .some 4))] []) (.seq
  (.reg [(none, (.mov (.tmp 0), .some 5)), (none, (.mov (.tmp 1), .some 6)), (none, (.call (.func 142) [.tmp 5, .tmp 6], .some 7)), (none, (.mov (.tmp 7), .some 4))] []) .ret)
theorem b121 : Try.f121.body.bind (compC Try.prog) = some c121 := by kernel_rfl
theorem r121 : compR Try.prog Try.f121 = .some [.tmp 4] := by kernel_rfl
theorem n121 : (Try.f121.name == "runtime.NumGoroutine") = false := by kernel_rfl
def c124 : C := .seq
  (.reg [(none, (.mov (.tmp 0), .some 4)), (none, (.call (.func 123) [.tmp 4], .some 5)), (none, (.bin .eql (.tmp 5) (.const (.int .i64 0)), .some 6))] []) (.cond (.tmp 6)
  (.reg [(none, (.mov (.tmp 0), .some 7)), (none, (.mov (.tmp 1), .some 8)), (none, (.nilc (.tmp 7), .some 9)), (none, (.fadr 2 (.tmp 9), .some 10)), (none, (.store 1 (.tmp 10) (.tmp 8), none))] []) .skip)
theorem b124 : Try.f124.body.bind (compC Try.prog) = some c124 := by kernel_rfl
theorem r124 : compR Try.prog Try.f124 = .some [] := by kernel_rfl
theorem n124 : (Try.f124.name == "runtime.NumGoroutine") = false := by kernel_rfl
def c131 : C := .seq
  (.reg [(none, (.new [.int .i64 0, .int .i64 0], .some 4))] []) (.seq
  (.reg [(none, (.build [.int .i64 0, .int .i64 0] [], .some 6)), (none, (.new [.int .i64 0, .int .i64 0], .some 5)), (none, (.store 2 (.tmp 5) (.tmp 6), none))] []) (.seq (.seq
  (.reg [(none, (.mov (.tmp 0), .some 7)), (none, (.bin .neq (.tmp 7) (.const (.int .i64 0)), .some 8))] []) (.cond (.tmp 8)
  (.reg [(none, (.mov (.tmp 0), .some 9)), (none, (.mov (.tmp 1), .some 10)), (none, (.fadr 0 (.tmp 5), .some 11)), (none, (.store 1 (.tmp 11) (.tmp 9), none)), (none, (.fadr 1 (.tmp 5), .some 12)), (none, (.store 1 (.tmp 12) (.tmp 10), none))] []) .skip)) (.seq
  (.reg [(none, (.load (.some 2) (.tmp 5), .some 13)), (none, (.store 2 (.tmp 4) (.tmp 13), none))] []) .ret)))
theorem b131 : Try.f131.body.bind (compC Try.prog) = some c131 := by kernel_rfl
theorem r131 : compR Try.prog Try.f131 = .some [.cell 4 (.some 2)] := by kernel_rfl
theorem n131 : (Try.f131.name == "runtime.NumGoroutine") = false := by kernel_rfl
end Go.Proofs.Ytgphhganepjaiaa
