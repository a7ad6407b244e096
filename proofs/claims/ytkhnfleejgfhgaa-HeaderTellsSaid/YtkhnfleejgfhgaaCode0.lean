/-
  The codes of the seat's functions over abstract values, each shown to be its function's own (by program: wip/tools/codes.py).
-/
import Derived.Test.YtkhnfleejgfhgaaA2
import Derived.Test.YtkhnfleejgfhgaaProg
import Derived.KernelRfl
namespace Go.Proofs.Ytkhnfleejgfhgaa
def c10 : C := .seq
  (.reg [(none, (.box (.tmp 0), .some 3)), (none, (.mov (.const (.bool .false)), .some 6))] []) (.seq (.seq
  (.reg [(none, (.load (.some 3) (.tmp 3), .some 14)), (none, (.call (.func 59) [.tmp 14], .some 15)), (none, (.call (.func 58) [.tmp 15], .some 16)), (none, (.un .not (.tmp 16), .some 17))] []) (.cond (.tmp 17) (.seq
  (.reg [(none, (.call (.func 60) [], .some 18)), (none, (.mov (.tmp 18), .some 6))] []) .ret) .skip)) (.seq
  (.reg [(none, (.load (.some 3) (.tmp 3), .some 20)), (none, (.call (.func 61) [.tmp 20], .some 21)), (none, (.mov (.tmp 21), .some 19)), (none, (.ext (.tmp 19) 0, .some 22)), (none, (.ext (.tmp 19) 1, .some 23)), (none, (.mov (.tmp 22), .some 7)), (none, (.mov (.tmp 23), .some 8))] []) (.seq (.seq
  (.reg [(none, (.mov (.tmp 8), .some 24)), (none, (.bin .neq (.tmp 24) (.const (.int .i64 0)), .some 25)), (none, (.mov (.tmp 25), .some 26)), (.some (26, .false), (.mov (.tmp 7), .some 27)), (.some (26, .false), (.len .false (.tmp 27), .some 28)), (.some (26, .false), (.bin .lss (.tmp 28) (.const (.int .i64 10)), .some 29)), (none, (.pick (.tmp 26) (.const (.bool .true)) (.tmp 29), .some 30))] []) (.cond (.tmp 30) (.seq
  (.reg [(none, (.mov (.const (.bool .false)), .some 6))] []) .ret) .skip)) (.seq
  (.reg [(none, (.mov (.tmp 1), .some 31)), (none, (.mx .true (.tmp 31) (.const (.int .i64 0)), .some 32)), (none, (.mov (.tmp 7), .some 33)), (none, (.len .false (.tmp 33), .some 34)), (none, (.bin .sub (.tmp 34) (.const (.int .i64 5)), .some 35)), (none, (.bin .mul (.const (.int .i64 8)) (.tmp 35), .some 36)), (none, (.bin .sub (.tmp 36) (.const (.int .i64 1)), .some 37)), (none, (.mx .false (.tmp 32) (.tmp 37), .some 38)), (none, (.mov (.tmp 38), .some 1))] []) (.seq
  (.reg [(none, (.bsl 1 [], .some 39)), (none, (.mov (.tmp 7), .some 40)), (none, (.slice 1 (.tmp 40) none (.some (.const (.int .i64 5))) none, .some 41)), (none, (.app 1 1 (.tmp 39) (.tmp 41), .some 42)), (none, (.mov (.tmp 7), .some 43)), (none, (.slice 1 (.tmp 43) (.some (.const (.int .i64 5))) none none, .some 44)), (none, (.mov (.tmp 1), .some 45)), (none, (.mov (.tmp 2), .some 46)), (none, (.call (.func 62) [.tmp 44, .tmp 45, .tmp 46], .some 47)), (none, (.app 1 1 (.tmp 42) (.tmp 47), .some 48)), (none, (.mov (.tmp 48), .some 9))] []) (.seq
  (.reg [(none, (.mov (.tmp 9), .some 50)), (none, (.call (.func 63) [.tmp 50], .some 51)), (none, (.mov (.tmp 51), .some 49)), (none, (.ext (.tmp 49) 0, .some 52)), (none, (.ext (.tmp 49) 1, .some 53)), (none, (.ext (.tmp 49) 2, .some 54)), (none, (.new [.int .i64 0, .int .u64 0, .int .u64 0], .some 10)), (none, (.new [.int .i64 0, .int .i64 0], .some 12)), (none, (.store 3 (.tmp 10) (.tmp 52), none)), (none, (.mov (.tmp 53), .some 11)), (none, (.store 2 (.tmp 12) (.tmp 54), none))] []) (.seq (.seq
  (.reg [(none, (.mov (.tmp 9), .some 55)), (none, (.mov (.tmp 7), .some 56)), (none, (.call (.func 23) [.tmp 55, .tmp 56], .some 57))] []) (.cond (.tmp 57) (.seq
  (.reg [(none, (.load (.some 3) (.tmp 10), .some 58)), (none, (.load (.some 3) (.tmp 3), .some 59)), (none, (.eqa .false 3 (.tmp 58) (.tmp 59), .some 60)), (none, (.mov (.tmp 60), .some 61)), (.some (61, .true), (.fadr 0 (.tmp 12), .some 62)), (.some (61, .true), (.load none (.tmp 62), .some 63)), (.some (61, .true), (.bin .eql (.tmp 63) (.const (.int .i64 0)), .some 64)), (none, (.pick (.tmp 61) (.tmp 64) (.const (.bool .false)), .some 65)), (none, (.mov (.tmp 65), .some 66)), (.some (66, .true), (.call (.func 60) [], .some 67)), (none, (.pick (.tmp 66) (.tmp 67) (.const (.bool .false)), .some 68)), (none, (.mov (.tmp 68), .some 6))] []) .ret) .skip)) (.seq (.seq
  (.reg [(none, (.mov (.const (.int .i64 5)), .some 13))] []) (.block 0 (.loop (.seq (.seq
  (.reg [(none, (.mov (.tmp 13), .some 69)), (none, (.mov (.tmp 7), .some 70)), (none, (.len .false (.tmp 70), .some 71)), (none, (.bin .sub (.tmp 71) (.const (.int .i64 4)), .some 72)), (none, (.bin .lss (.tmp 69) (.tmp 72), .some 73))] []) (.cond (.tmp 73) .skip (.exit 0))) (.seq (.block 1 (.seq
  (.reg [(none, (.mov (.tmp 9), .some 76)), (none, (.mov (.tmp 13), .some 77)), (none, (.iadr 1 (.tmp 76) (.tmp 77), .some 78)), (none, (.load none (.tmp 78), .some 79)), (none, (.bin .quo (.tmp 79) (.const (.int .u8 128)), .some 80)), (none, (.mov (.tmp 7), .some 81)), (none, (.mov (.tmp 13), .some 82)), (none, (.iadr 1 (.tmp 81) (.tmp 82), .some 83)), (none, (.load none (.tmp 83), .some 84)), (none, (.bin .quo (.tmp 84) (.const (.int .u8 128)), .some 85)), (none, (.bin .neq (.tmp 80) (.tmp 85), .some 86))] [(3, 8)]) (.cond (.tmp 86) (.seq
  (.reg [(none, (.call (.func 60) [], .some 87)), (none, (.mov (.tmp 87), .some 6))] []) .ret) .skip)))
  (.reg [(none, (.mov (.tmp 13), .some 74)), (none, (.bin .add (.tmp 74) (.const (.int .i64 1)), .some 75)), (none, (.mov (.tmp 75), .some 13))] [])))))) (.seq
  (.reg [(none, (.fadr 0 (.tmp 12), .some 88)), (none, (.load none (.tmp 88), .some 89)), (none, (.bin .neq (.tmp 89) (.const (.int .i64 0)), .some 90)), (none, (.mov (.tmp 90), .some 91)), (.some (91, .true), (.load (.some 3) (.tmp 10), .some 92)), (.some (91, .true), (.build [.int .i64 0, .int .u64 0, .int .u64 0] [], .some 93)), (.some (91, .true), (.eqa .false 3 (.tmp 92) (.tmp 93), .some 94)), (none, (.pick (.tmp 91) (.tmp 94) (.const (.bool .false)), .some 95)), (none, (.mov (.tmp 95), .some 96)), (.some (96, .true), (.call (.func 60) [], .some 97)), (none, (.pick (.tmp 96) (.tmp 97) (.const (.bool .false)), .some 98)), (none, (.mov (.tmp 98), .some 6))] []) .ret)))))))))
theorem b10 : Try.f10.body.bind (compC Try.prog) = some c10 := by kernel_rfl
theorem r10 : compR Try.prog Try.f10 = .some [.tmp 6] := by kernel_rfl
theorem n10 : (Try.f10.name == "runtime.NumGoroutine") = false := by kernel_rfl
def c44 : C := .seq
  (.reg [(none, (.mov (.const (.pointer none)), .some 2))] []) (.seq
  (.reg [(none, (.mov (.tmp 0), .some 3)), (none, (.mov (.tmp 0), .some 4)), (none, (.len .false (.tmp 4), .some 5)), (none, (.mov (.tmp 0), .some 6)), (none, (.len .false (.tmp 6), .some 7)), (none, (.slice 1 (.tmp 3) none (.some (.tmp 5)) (.some (.tmp 7)), .some 8)), (none, (.build [.slice none 0 0, .int .i64 0, .int .i64 0, .int .i64 0] [(0, (1, .tmp 8))], .some 9)), (none, (.box (.tmp 9), .some 10)), (none, (.mov (.tmp 10), .some 2))] []) .ret)
theorem b44 : Try.f44.body.bind (compC Try.prog) = some c44 := by kernel_rfl
theorem r44 : compR Try.prog Try.f44 = .some [.tmp 2] := by kernel_rfl
theorem n44 : (Try.f44.name == "runtime.NumGoroutine") = false := by kernel_rfl
def c75 : C := .seq
  (.reg [(none, (.mov (.const (.int .i64 0)), .some 0))] []) (.seq
  (.reg [(none, (.call (.func 131) [.const (.int .u64 4611686018427387903)], .some 1)), (none, (.bin .mul (.const (.int .i64 2)) (.tmp 1), .some 2)), (none, (.bin .add (.const (.int .i64 5)) (.tmp 2), .some 3)), (none, (.bin .add (.tmp 3) (.const (.int .i64 4)), .some 4)), (none, (.mov (.tmp 4), .some 0))] []) .ret)
theorem b75 : Try.f75.body.bind (compC Try.prog) = some c75 := by kernel_rfl
theorem r75 : compR Try.prog Try.f75 = .some [.tmp 0] := by kernel_rfl
theorem n75 : (Try.f75.name == "runtime.NumGoroutine") = false := by kernel_rfl
def c96 : C := .seq
  (.reg [(none, (.mov (.const (.int .u8 0)), .some 2))] []) (.seq (.seq
  (.reg [(none, (.mov (.tmp 0), .some 3)), (none, (.call (.func 78) [.tmp 3, .const (.int .i64 1)], .some 4)), (none, (.un .not (.tmp 4), .some 5))] []) (.cond (.tmp 5) (.seq
  (.reg [(none, (.mov (.const (.int .u8 0)), .some 2))] []) .ret) .skip)) (.seq
  (.reg [(none, (.mov (.tmp 0), .some 6)), (none, (.nilc (.tmp 6), .some 7)), (none, (.fadr 0 (.tmp 7), .some 8)), (none, (.load none (.tmp 8), .some 9)), (none, (.mov (.tmp 0), .some 10)), (none, (.nilc (.tmp 10), .some 11)), (none, (.fadr 1 (.tmp 11), .some 12)), (none, (.load none (.tmp 12), .some 13)), (none, (.bin .sub (.tmp 13) (.const (.int .i64 1)), .some 14)), (none, (.iadr 1 (.tmp 9) (.tmp 14), .some 15)), (none, (.load none (.tmp 15), .some 16)), (none, (.mov (.tmp 16), .some 2))] [(3, 7)]) .ret))
theorem b96 : Try.f96.body.bind (compC Try.prog) = some c96 := by kernel_rfl
theorem r96 : compR Try.prog Try.f96 = .some [.tmp 2] := by kernel_rfl
theorem n96 : (Try.f96.name == "runtime.NumGoroutine") = false := by kernel_rfl
def c127 : C := .reg [(none, (.mov (.tmp 0), .some 4)), (none, (.mov (.tmp 1), .some 5)), (none, (.call (.func 172) [.tmp 5], .some 6)), (none, (.call (.func 140) [.tmp 4, .tmp 6], .some 7))] []
theorem b127 : Try.f127.body.bind (compC Try.prog) = some c127 := by kernel_rfl
theorem r127 : compR Try.prog Try.f127 = .some [] := by kernel_rfl
theorem n127 : (Try.f127.name == "runtime.NumGoroutine") = false := by kernel_rfl
def c130 : C := .seq
  (.reg [(none, (.mov (.const (.int .i64 0)), .some 2))] []) (.seq (.seq
  (.reg [(none, (.mov (.tmp 0), .some 3)), (none, (.eqp .false (.tmp 3) (.const (.pointer none)), .some 4))] []) (.cond (.tmp 4) (.seq
  (.reg [(none, (.mov (.const (.int .i64 19)), .some 2))] []) .ret) .skip)) (.seq
  (.reg [(none, (.mov (.tmp 0), .some 5)), (none, (.nilc (.tmp 5), .some 6)), (none, (.fadr 2 (.tmp 6), .some 7)), (none, (.load none (.tmp 7), .some 8)), (none, (.mov (.tmp 8), .some 2))] []) .ret))
theorem b130 : Try.f130.body.bind (compC Try.prog) = some c130 := by kernel_rfl
theorem r130 : compR Try.prog Try.f130 = .some [.tmp 2] := by kernel_rfl
theorem n130 : (Try.f130.name == "runtime.NumGoroutine") = false := by kernel_rfl
def c133 : C := .seq
  (.reg [(none, (.mov (.const (.bool .false)), .some 2))] []) (.seq
  (.reg [(none, (.mov (.tmp 0), .some 3)), (none, (.bin .leq (.tmp 3) (.const (.int .u64 4611686018427387903)), .some 4)), (none, (.mov (.tmp 4), .some 2))] []) .ret)
theorem b133 : Try.f133.body.bind (compC Try.prog) = some c133 := by kernel_rfl
theorem r133 : compR Try.prog Try.f133 = .some [.tmp 2] := by kernel_rfl
theorem n133 : (Try.f133.name == "runtime.NumGoroutine") = false := by kernel_rfl
def c142 : C := .seq
  (.reg [(none, (.mov (.const (.int .u32 0)), .some 2))] []) (.seq
  (.reg [(none, (.call (.func 177) [], .some 3)), (none, (.mov (.tmp 0), .some 4)), (none, (.call (.func 176) [.tmp 3, .tmp 4], .some 5)), (none, (.call (.func 175) [.tmp 5], .some 6)), (none, (.mov (.tmp 6), .some 2))] []) .ret)
theorem b142 : Try.f142.body.bind (compC Try.prog) = some c142 := by kernel_rfl
theorem r142 : compR Try.prog Try.f142 = .some [.tmp 2] := by kernel_rfl
theorem n142 : (Try.f142.name == "runtime.NumGoroutine") = false := by kernel_rfl
def c145 : C := .seq
  (.reg [(none, (.mov (.const (.bool .false)), .some 2))] []) (.seq
  (.reg [(none, (.mov (.tmp 0), .some 3)), (none, (.bin .eql (.tmp 3) (.const (.int .i64 1)), .some 4)), (none, (.mov (.tmp 4), .some 2))] []) .ret)
theorem b145 : Try.f145.body.bind (compC Try.prog) = some c145 := by kernel_rfl
theorem r145 : compR Try.prog Try.f145 = .some [.tmp 2] := by kernel_rfl
theorem n145 : (Try.f145.name == "runtime.NumGoroutine") = false := by kernel_rfl
def c146 : C := .seq
  (.reg [(none, (.mov (.const (.int .i64 0)), .some 2))] []) (.seq
  (.reg [(none, (.mov (.tmp 0), .some 5)), (none, (.call (.func 49) [.tmp 5], .some 6)), (none, (.mov (.tmp 6), .some 3))] []) (.seq (.seq
  (.reg [(none, (.mov (.tmp 0), .some 7)), (none, (.call (.func 178) [.tmp 7, .const (.int .i64 4)], .some 8)), (none, (.b2s (.tmp 8), .some 9)), (none, (.bin .neq (.tmp 9) (.const (.string (.mk (#[84, 72, 79, 76])))), .some 10))] []) (.cond (.tmp 10)
  (.reg [(none, (.mov (.tmp 0), .some 11)), (none, (.mov (.tmp 3), .some 12)), (none, (.call (.func 97) [.tmp 11, .const (.int .i64 14), .tmp 12], .some 13))] []) .skip)) (.seq
  (.reg [(none, (.mov (.tmp 0), .some 14)), (none, (.call (.func 96) [.tmp 14], .some 15)), (none, (.cvt .i64 (.tmp 15), .some 16)), (none, (.mov (.tmp 16), .some 4))] []) (.seq (.seq
  (.reg [(none, (.mov (.tmp 4), .some 17)), (none, (.bin .lss (.tmp 17) (.const (.int .i64 1)), .some 18)), (none, (.mov (.tmp 18), .some 19)), (.some (19, .false), (.mov (.tmp 4), .some 20)), (.some (19, .false), (.bin .gtr (.tmp 20) (.const (.int .i64 3)), .some 21)), (none, (.pick (.tmp 19) (.const (.bool .true)) (.tmp 21), .some 22))] []) (.cond (.tmp 22)
  (.reg [(none, (.mov (.tmp 0), .some 23)), (none, (.mov (.tmp 0), .some 24)), (none, (.call (.func 49) [.tmp 24], .some 25)), (none, (.bin .sub (.tmp 25) (.const (.int .i64 1)), .some 26)), (none, (.call (.func 97) [.tmp 23, .const (.int .i64 8), .tmp 26], .some 27))] []) .skip)) (.seq (.seq
  (.reg [(none, (.mov (.tmp 0), .some 28)), (none, (.call (.func 57) [.tmp 28], .some 29)), (none, (.un .not (.tmp 29), .some 30))] []) (.cond (.tmp 30) (.seq
  (.reg [(none, (.mov (.const (.int .i64 0)), .some 2))] []) .ret) .skip)) (.seq
  (.reg [(none, (.mov (.tmp 4), .some 31)), (none, (.mov (.tmp 31), .some 2))] []) .ret))))))
theorem b146 : Try.f146.body.bind (compC Try.prog) = some c146 := by kernel_rfl
theorem r146 : compR Try.prog Try.f146 = .some [.tmp 2] := by kernel_rfl
theorem n146 : (Try.f146.name == "runtime.NumGoroutine") = false := by kernel_rfl
def c152 : C := .seq
  (.reg [(none, (.mov (.const (.int .u64 0)), .some 4))] []) (.seq
  (.reg [(none, (.mov (.const (.int .u64 0)), .some 5))] []) (.seq (.seq
  (.reg [(none, (.mov (.tmp 0), .some 8)), (none, (.mov (.tmp 1), .some 9)), (none, (.mx .true (.tmp 9) (.const (.int .i64 0)), .some 10)), (none, (.mx .false (.tmp 10) (.const (.int .i64 8)), .some 11)), (none, (.call (.func 178) [.tmp 8, .tmp 11], .some 12)), (none, (.len .false (.tmp 12), .some 13)), (none, (.mov (.const (.int .i64 0)), .some 14))] []) (.block 0 (.loop (.seq
  (.reg [(none, (.bin .lss (.tmp 14) (.tmp 13), .some 15))] []) (.seq (.cond (.tmp 15) .skip (.exit 0)) (.seq (.block 1 (.seq
  (.reg [(none, (.mov (.tmp 14), .some 16)), (none, (.iadr 1 (.tmp 12) (.tmp 14), .some 17)), (none, (.load none (.tmp 17), .some 18)), (none, (.mov (.tmp 16), .some 6)), (none, (.mov (.tmp 18), .some 7))] [])
  (.reg [(none, (.mov (.tmp 5), .some 19)), (none, (.mov (.tmp 7), .some 20)), (none, (.cvt .u64 (.tmp 20), .some 21)), (none, (.mov (.tmp 6), .some 22)), (none, (.bin .mul (.const (.int .i64 8)) (.tmp 22), .some 23)), (none, (.bin .shl (.tmp 21) (.tmp 23), .some 24)), (none, (.bin .or (.tmp 19) (.tmp 24), .some 25)), (none, (.mov (.tmp 25), .some 5))] [])))
  (.reg [(none, (.bin .add (.tmp 14) (.const (.int .i64 1)), .some 26)), (none, (.mov (.tmp 26), .some 14))] []))))))) (.seq
  (.reg [(none, (.mov (.tmp 5), .some 27)), (none, (.mov (.tmp 27), .some 4))] []) .ret)))
theorem b152 : Try.f152.body.bind (compC Try.prog) = some c152 := by kernel_rfl
theorem r152 : compR Try.prog Try.f152 = .some [.tmp 4] := by kernel_rfl
theorem n152 : (Try.f152.name == "runtime.NumGoroutine") = false := by kernel_rfl
def c162 : C := .seq
  (.reg [(none, (.mov (.const (.slice none 0 0)), .some 4))] []) (.seq
  (.reg [(none, (.mov (.const (.slice none 0 0)), .some 5))] []) (.seq (.seq
  (.reg [(none, (.mov (.tmp 1), .some 6)), (none, (.mx .true (.tmp 6) (.const (.int .i64 0)), .some 7)), (none, (.mx .false (.tmp 7) (.const (.int .i64 8)), .some 8)), (none, (.mov (.const (.int .i64 0)), .some 9))] []) (.block 0 (.loop (.seq
  (.reg [(none, (.bin .lss (.tmp 9) (.tmp 8), .some 10))] []) (.seq (.cond (.tmp 10) .skip (.exit 0)) (.seq (.block 1 (.seq
  (.reg [(none, (.mov (.tmp 5), .some 11)), (none, (.mov (.tmp 0), .some 12)), (none, (.bin .rem (.tmp 12) (.const (.int .u64 256)), .some 13)), (none, (.cvt .u8 (.tmp 13), .some 14)), (none, (.bsl 1 [.tmp 14], .some 15)), (none, (.app 1 1 (.tmp 11) (.tmp 15), .some 16)), (none, (.mov (.tmp 16), .some 5))] [])
  (.reg [(none, (.mov (.tmp 0), .some 17)), (none, (.bin .quo (.tmp 17) (.const (.int .u64 256)), .some 18)), (none, (.mov (.tmp 18), .some 0))] [])))
  (.reg [(none, (.bin .add (.tmp 9) (.const (.int .i64 1)), .some 19)), (none, (.mov (.tmp 19), .some 9))] []))))))) (.seq
  (.reg [(none, (.mov (.tmp 5), .some 20)), (none, (.mov (.tmp 20), .some 4))] []) .ret)))
theorem b162 : Try.f162.body.bind (compC Try.prog) = some c162 := by kernel_rfl
theorem r162 : compR Try.prog Try.f162 = .some [.tmp 4] := by kernel_rfl
theorem n162 : (Try.f162.name == "runtime.NumGoroutine") = false := by kernel_rfl
def c164 : C := .seq
  (.reg [(none, (.mov (.const (.int .u64 0)), .some 4))] []) (.seq
  (.reg [(none, (.mov (.tmp 0), .some 7)), (none, (.call (.func 49) [.tmp 7], .some 8)), (none, (.mov (.tmp 8), .some 5))] []) (.seq
  (.reg [(none, (.mov (.tmp 0), .some 9)), (none, (.call (.func 100) [.tmp 9], .some 10)), (none, (.mov (.tmp 10), .some 6))] []) (.seq (.seq
  (.reg [(none, (.mov (.tmp 1), .some 11)), (none, (.mov (.tmp 6), .some 12)), (none, (.call (.tmp 11) [.tmp 12], .some 13)), (none, (.un .not (.tmp 13), .some 14))] []) (.cond (.tmp 14)
  (.reg [(none, (.mov (.tmp 0), .some 15)), (none, (.mov (.tmp 5), .some 16)), (none, (.call (.func 97) [.tmp 15, .const (.int .i64 3), .tmp 16], .some 17))] []) .skip)) (.seq (.seq
  (.reg [(none, (.mov (.tmp 0), .some 18)), (none, (.call (.func 57) [.tmp 18], .some 19)), (none, (.un .not (.tmp 19), .some 20))] []) (.cond (.tmp 20) (.seq
  (.reg [(none, (.mov (.const (.int .u64 0)), .some 4))] []) .ret) .skip)) (.seq
  (.reg [(none, (.mov (.tmp 6), .some 21)), (none, (.mov (.tmp 21), .some 4))] []) .ret)))))
theorem b164 : Try.f164.body.bind (compC Try.prog) = some c164 := by kernel_rfl
theorem r164 : compR Try.prog Try.f164 = .some [.tmp 4] := by kernel_rfl
theorem n164 : (Try.f164.name == "runtime.NumGoroutine") = false := by kernel_rfl
def c196 : C := .seq
  (.reg [(none, (.mov (.const (.int .u32 0)), .some 2))] []) (.seq (.seq
  (.reg [(none, (.mov (.tmp 0), .some 3)), (none, (.bin .and (.tmp 3) (.const (.int .u32 1)), .some 4)), (none, (.bin .eql (.tmp 4) (.const (.int .u32 1)), .some 5))] []) (.cond (.tmp 5) (.seq
  (.reg [(none, (.mov (.tmp 0), .some 6)), (none, (.bin .shr (.tmp 6) (.const (.int .u64 1)), .some 7)), (none, (.bin .xor (.tmp 7) (.const (.int .u32 2197175160)), .some 8)), (none, (.mov (.tmp 8), .some 2))] []) .ret) .skip)) (.seq
  (.reg [(none, (.mov (.tmp 0), .some 9)), (none, (.bin .shr (.tmp 9) (.const (.int .u64 1)), .some 10)), (none, (.mov (.tmp 10), .some 2))] []) .ret))
theorem b196 : Try.f196.body.bind (compC Try.prog) = some c196 := by kernel_rfl
theorem r196 : compR Try.prog Try.f196 = .some [.tmp 2] := by kernel_rfl
theorem n196 : (Try.f196.name == "runtime.NumGoroutine") = false := by kernel_rfl
end Go.Proofs.Ytkhnfleejgfhgaa
