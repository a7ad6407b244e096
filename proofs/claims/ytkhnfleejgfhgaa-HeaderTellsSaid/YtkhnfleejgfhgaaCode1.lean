/-
  The codes of the seat's functions over abstract values, each shown to be its function's own (by program: wip/tools/codes.py).
-/
import Derived.Test.YtkhnfleejgfhgaaA2
import Derived.Test.YtkhnfleejgfhgaaProg
import Derived.KernelRfl
namespace Go.Proofs.Ytkhnfleejgfhgaa
def c14 : C := .seq
  (.reg [(none, (.box (.tmp 0), .some 2)), (none, (.mov (.const (.bool .false)), .some 4))] []) (.seq
  (.reg [(none, (.load (.some 3) (.tmp 2), .some 14)), (none, (.call (.func 61) [.tmp 14], .some 15)), (none, (.mov (.tmp 15), .some 13)), (none, (.ext (.tmp 13) 0, .some 16)), (none, (.ext (.tmp 13) 1, .some 17)), (none, (.mov (.tmp 16), .some 5)), (none, (.mov (.tmp 17), .some 6))] []) (.seq (.seq
  (.reg [(none, (.mov (.tmp 6), .some 18)), (none, (.bin .neq (.tmp 18) (.const (.int .i64 0)), .some 19))] []) (.cond (.tmp 19) (.seq
  (.reg [(none, (.call (.func 60) [], .some 20)), (none, (.mov (.tmp 20), .some 4))] []) .ret) .skip)) (.seq (.seq
  (.reg [(none, (.mov (.tmp 5), .some 21)), (none, (.len .false (.tmp 21), .some 22)), (none, (.bin .lss (.tmp 22) (.const (.int .i64 10)), .some 23))] []) (.cond (.tmp 23) (.seq
  (.reg [(none, (.mov (.const (.bool .false)), .some 4))] []) .ret) .skip)) (.seq
  (.reg [(none, (.mov (.tmp 1), .some 24)), (none, (.mx .true (.tmp 24) (.const (.int .i64 0)), .some 25)), (none, (.mov (.tmp 5), .some 26)), (none, (.len .false (.tmp 26), .some 27)), (none, (.bin .sub (.tmp 27) (.const (.int .i64 1)), .some 28)), (none, (.mx .false (.tmp 25) (.tmp 28), .some 29)), (none, (.mov (.tmp 29), .some 1))] []) (.seq
  (.reg [(none, (.mov (.tmp 5), .some 31)), (none, (.mov (.tmp 1), .some 32)), (none, (.slice 1 (.tmp 31) none (.some (.tmp 32)) none, .some 33)), (none, (.call (.func 63) [.tmp 33], .some 34)), (none, (.mov (.tmp 34), .some 30)), (none, (.ext (.tmp 30) 0, .some 35)), (none, (.ext (.tmp 30) 1, .some 36)), (none, (.ext (.tmp 30) 2, .some 37)), (none, (.new [.int .i64 0, .int .u64 0, .int .u64 0], .some 7)), (none, (.new [.int .i64 0, .int .i64 0], .some 9)), (none, (.store 3 (.tmp 7) (.tmp 35), none)), (none, (.mov (.tmp 36), .some 8)), (none, (.store 2 (.tmp 9) (.tmp 37), none))] []) (.seq
  (.reg [(none, (.mov (.tmp 5), .some 39)), (none, (.mov (.tmp 1), .some 40)), (none, (.slice 1 (.tmp 39) none (.some (.tmp 40)) none, .some 41)), (none, (.call (.func 73) [.tmp 41], .some 42)), (none, (.mov (.tmp 42), .some 38)), (none, (.ext (.tmp 38) 0, .some 43)), (none, (.ext (.tmp 38) 1, .some 44)), (none, (.new [.int .i64 0, .int .i64 0], .some 11)), (none, (.mov (.tmp 43), .some 10)), (none, (.store 2 (.tmp 11) (.tmp 44), none))] []) (.seq
  (.reg [(none, (.mov (.tmp 1), .some 45)), (none, (.build [.int .i64 0, .int .i64 0] [(0, (1, .const (.int .i64 1))), (1, (1, .tmp 45))], .some 46)), (none, (.new [.int .i64 0, .int .i64 0], .some 12)), (none, (.store 2 (.tmp 12) (.tmp 46), none))] []) (.seq
  (.reg [(none, (.mov (.tmp 8), .some 47)), (none, (.bin .eql (.tmp 47) (.const (.int .i64 0)), .some 48)), (none, (.mov (.tmp 48), .some 49)), (.some (49, .true), (.load (.some 2) (.tmp 9), .some 50)), (.some (49, .true), (.load (.some 2) (.tmp 12), .some 51)), (.some (49, .true), (.eqa .false 2 (.tmp 50) (.tmp 51), .some 52)), (none, (.pick (.tmp 49) (.tmp 52) (.const (.bool .false)), .some 53)), (none, (.mov (.tmp 53), .some 54)), (.some (54, .true), (.mov (.tmp 1), .some 55)), (.some (54, .true), (.bin .lss (.tmp 55) (.const (.int .i64 5)), .some 56)), (.some (54, .true), (.mov (.tmp 56), .some 57)), (.some (57, .true), (.mov (.tmp 10), .some 58)), (.some (57, .true), (.bin .eql (.tmp 58) (.const (.int .i64 0)), .some 59)), (.some (54, .true), (.pick (.tmp 57) (.tmp 59) (.const (.bool .false)), .some 60)), (.some (54, .true), (.mov (.tmp 60), .some 61)), (.some (61, .true), (.load (.some 2) (.tmp 11), .some 62)), (.some (61, .true), (.load (.some 2) (.tmp 12), .some 63)), (.some (61, .true), (.eqa .false 2 (.tmp 62) (.tmp 63), .some 64)), (.some (54, .true), (.pick (.tmp 61) (.tmp 64) (.const (.bool .false)), .some 65)), (.some (54, .true), (.mov (.tmp 65), .some 66)), (.some (66, .false), (.mov (.tmp 1), .some 67)), (.some (66, .false), (.bin .geq (.tmp 67) (.const (.int .i64 5)), .some 68)), (.some (66, .false), (.mov (.tmp 68), .some 69)), (.some (69, .true), (.mov (.tmp 10), .some 70)), (.some (69, .true), (.fadr 0 (.tmp 2), .some 71)), (.some (69, .true), (.load none (.tmp 71), .some 72)), (.some (69, .true), (.bin .eql (.tmp 70) (.tmp 72), .some 73)), (.some (66, .false), (.pick (.tmp 69) (.tmp 73) (.const (.bool .false)), .some 74)), (.some (66, .false), (.mov (.tmp 74), .some 75)), (.some (75, .true), (.fadr 0 (.tmp 11), .some 76)), (.some (75, .true), (.load none (.tmp 76), .some 77)), (.some (75, .true), (.bin .eql (.tmp 77) (.const (.int .i64 0)), .some 78)), (.some (66, .false), (.pick (.tmp 75) (.tmp 78) (.const (.bool .false)), .some 79)), (.some (54, .true), (.pick (.tmp 66) (.const (.bool .true)) (.tmp 79), .some 80)), (none, (.pick (.tmp 54) (.tmp 80) (.const (.bool .false)), .some 81)), (none, (.mov (.tmp 81), .some 82)), (.some (82, .true), (.call (.func 60) [], .some 83)), (none, (.pick (.tmp 82) (.tmp 83) (.const (.bool .false)), .some 84)), (none, (.mov (.tmp 84), .some 4))] []) .ret))))))))
theorem b14 : Try.f14.body.bind (compC Try.prog) = some c14 := by kernel_rfl
theorem r14 : compR Try.prog Try.f14 = .some [.tmp 4] := by kernel_rfl
theorem n14 : (Try.f14.name == "runtime.NumGoroutine") = false := by kernel_rfl
def c53 : C := .seq
  (.reg [(none, (.mov (.const (.pointer none)), .some 2))] []) (.seq
  (.reg [(none, (.mov (.tmp 0), .some 3)), (none, (.mx .true (.tmp 3) (.const (.int .i64 0)), .some 4)), (none, (.build [.int .i64 0, .slice none 0 0, .int .i64 0] [(0, (1, .tmp 4))], .some 5)), (none, (.box (.tmp 5), .some 6)), (none, (.mov (.tmp 6), .some 2))] []) .ret)
theorem b53 : Try.f53.body.bind (compC Try.prog) = some c53 := by kernel_rfl
theorem r53 : compR Try.prog Try.f53 = .some [.tmp 2] := by kernel_rfl
theorem n53 : (Try.f53.name == "runtime.NumGoroutine") = false := by kernel_rfl
def c60 : C := .seq
  (.reg [(none, (.mov (.const (.bool .false)), .some 0))] []) (.seq
  (.reg [(none, (.build [.int .i64 0, .int .u64 0, .int .u64 0] [(0, (1, .const (.int .i64 3))), (1, (1, .const (.int .u64 5)))], .some 4)), (none, (.call (.func 61) [.tmp 4], .some 5)), (none, (.mov (.tmp 5), .some 3)), (none, (.ext (.tmp 3) 0, .some 6)), (none, (.ext (.tmp 3) 1, .some 7)), (none, (.mov (.tmp 6), .some 1)), (none, (.mov (.tmp 7), .some 2))] []) (.seq
  (.reg [(none, (.mov (.tmp 2), .some 8)), (none, (.bin .eql (.tmp 8) (.const (.int .i64 0)), .some 9)), (none, (.mov (.tmp 9), .some 10)), (.some (10, .true), (.mov (.tmp 1), .some 11)), (.some (10, .true), (.len .false (.tmp 11), .some 12)), (.some (10, .true), (.bin .eql (.tmp 12) (.const (.int .i64 10)), .some 13)), (none, (.pick (.tmp 10) (.tmp 13) (.const (.bool .false)), .some 14)), (none, (.mov (.tmp 14), .some 15)), (.some (15, .true), (.mov (.tmp 1), .some 16)), (.some (15, .true), (.slice 1 (.tmp 16) none (.some (.const (.int .i64 6))) none, .some 17)), (.some (15, .true), (.b2s (.tmp 17), .some 18)), (.some (15, .true), (.bin .eql (.tmp 18) (.const (.string (.mk (#[84, 72, 79, 76, 3, 5])))), .some 19)), (none, (.pick (.tmp 15) (.tmp 19) (.const (.bool .false)), .some 20)), (none, (.mov (.tmp 20), .some 21)), (.some (21, .true), (.call (.func 134) [], .some 22)), (.some (21, .true), (.bin .eql (.tmp 22) (.const (.string (.mk (#[84, 72, 79, 76])))), .some 23)), (none, (.pick (.tmp 21) (.tmp 23) (.const (.bool .false)), .some 24)), (none, (.mov (.tmp 24), .some 25)), (.some (25, .true), (.call (.func 75) [], .some 26)), (.some (25, .true), (.bin .eql (.tmp 26) (.const (.int .i64 27)), .some 27)), (none, (.pick (.tmp 25) (.tmp 27) (.const (.bool .false)), .some 28)), (none, (.mov (.tmp 28), .some 0))] []) .ret))
theorem b60 : Try.f60.body.bind (compC Try.prog) = some c60 := by kernel_rfl
theorem r60 : compR Try.prog Try.f60 = .some [.tmp 0] := by kernel_rfl
theorem n60 : (Try.f60.name == "runtime.NumGoroutine") = false := by kernel_rfl
def c63 : C := .seq
  (.reg [(none, (.new [.int .i64 0, .int .u64 0, .int .u64 0], .some 2)), (none, (.mov (.const (.int .i64 0)), .some 3)), (none, (.new [.int .i64 0, .int .i64 0], .some 4))] []) (.seq
  (.reg [(none, (.mov (.tmp 0), .some 7)), (none, (.call (.func 44) [.tmp 7], .some 8)), (none, (.mov (.tmp 8), .some 5))] []) (.seq
  (.reg [(none, (.mov (.tmp 5), .some 9)), (none, (.call (.func 79) [.tmp 9], .some 10)), (none, (.new [.int .i64 0, .int .u64 0, .int .u64 0], .some 6)), (none, (.store 3 (.tmp 6) (.tmp 10), none))] []) (.seq (.seq
  (.reg [(none, (.load (.some 3) (.tmp 6), .some 11)), (none, (.build [.int .i64 0, .int .u64 0, .int .u64 0] [], .some 12)), (none, (.eqa .false 3 (.tmp 11) (.tmp 12), .some 13))] []) (.cond (.tmp 13) (.seq
  (.reg [(none, (.load (.some 3) (.tmp 6), .some 14)), (none, (.mov (.tmp 5), .some 15)), (none, (.call (.func 48) [.tmp 15], .some 16)), (none, (.store 3 (.tmp 2) (.tmp 14), none)), (none, (.mov (.const (.int .i64 0)), .some 3)), (none, (.store 2 (.tmp 4) (.tmp 16), none))] [(0, 2)]) .ret) .skip)) (.seq
  (.reg [(none, (.load (.some 3) (.tmp 6), .some 17)), (none, (.mov (.tmp 5), .some 18)), (none, (.call (.func 49) [.tmp 18], .some 19)), (none, (.build [.int .i64 0, .int .i64 0] [], .some 20)), (none, (.store 3 (.tmp 2) (.tmp 17), none)), (none, (.mov (.tmp 19), .some 3)), (none, (.store 2 (.tmp 4) (.tmp 20), none))] [(0, 2)]) .ret))))
theorem b63 : Try.f63.body.bind (compC Try.prog) = some c63 := by kernel_rfl
theorem r63 : compR Try.prog Try.f63 = .some [.cell 2 (.some 3), .tmp 3, .cell 4 (.some 2)] := by kernel_rfl
theorem n63 : (Try.f63.name == "runtime.NumGoroutine") = false := by kernel_rfl
def c71 : C := .seq
  (.reg [(none, (.box (.tmp 1), .some 3))] []) (.seq (.seq
  (.reg [(none, (.load (.some 3) (.tmp 3), .some 5)), (none, (.call (.func 72) [.tmp 5], .some 6)), (none, (.un .not (.tmp 6), .some 7))] []) (.cond (.tmp 7) (.seq
  (.reg [(none, (.mov (.tmp 0), .some 8)), (none, (.call (.func 126) [.tmp 8, .const (.int .i64 3)], .some 9))] []) .ret) .skip)) (.seq
  (.reg [(none, (.load (.some 3) (.tmp 3), .some 10)), (none, (.call (.func 139) [.tmp 10], .some 11)), (none, (.mov (.tmp 11), .some 4))] []) (.seq
  (.reg [(none, (.mov (.tmp 0), .some 12)), (none, (.mov (.tmp 4), .some 13)), (none, (.call (.func 140) [.tmp 12, .tmp 13], .some 14))] [])
  (.reg [(none, (.mov (.tmp 0), .some 15)), (none, (.mov (.tmp 4), .some 16)), (none, (.call (.func 142) [.tmp 16], .some 17)), (none, (.cvt .u64 (.tmp 17), .some 18)), (none, (.call (.func 141) [.tmp 15, .tmp 18, .const (.int .i64 4)], .some 19))] []))))
theorem b71 : Try.f71.body.bind (compC Try.prog) = some c71 := by kernel_rfl
theorem r71 : compR Try.prog Try.f71 = .some [] := by kernel_rfl
theorem n71 : (Try.f71.name == "runtime.NumGoroutine") = false := by kernel_rfl
def c78 : C := .seq
  (.reg [(none, (.mov (.const (.bool .false)), .some 4))] []) (.seq (.block 0 (.seq
  (.reg [(none, (.mov (.tmp 0), .some 6)), (none, (.call (.func 57) [.tmp 6], .some 7)), (none, (.un .not (.tmp 7), .some 8)), (none, (.mov (.tmp 8), .some 5))] []) (.cond (.tmp 5) (.seq
  (.reg [(none, (.mov (.const (.bool .false)), .some 4))] []) .ret) (.seq
  (.reg [(none, (.mov (.tmp 1), .some 10)), (none, (.bin .lss (.tmp 10) (.const (.int .i64 0)), .some 11)), (none, (.mov (.tmp 11), .some 9))] []) (.cond (.tmp 9) (.seq
  (.reg [(none, (.mov (.tmp 0), .some 12)), (none, (.mov (.tmp 0), .some 13)), (none, (.nilc (.tmp 13), .some 14)), (none, (.fadr 1 (.tmp 14), .some 15)), (none, (.load none (.tmp 15), .some 16)), (none, (.call (.func 97) [.tmp 12, .const (.int .i64 17), .tmp 16], .some 17))] []) (.seq
  (.reg [(none, (.mov (.const (.bool .false)), .some 4))] []) .ret)) (.seq
  (.reg [(none, (.mov (.tmp 1), .some 19)), (none, (.mov (.tmp 0), .some 20)), (none, (.call (.func 150) [.tmp 20], .some 21)), (none, (.bin .gtr (.tmp 19) (.tmp 21), .some 22)), (none, (.mov (.tmp 22), .some 18))] []) (.cond (.tmp 18) (.seq
  (.reg [(none, (.mov (.tmp 0), .some 23)), (none, (.mov (.tmp 0), .some 24)), (none, (.nilc (.tmp 24), .some 25)), (none, (.fadr 0 (.tmp 25), .some 26)), (none, (.load none (.tmp 26), .some 27)), (none, (.len .false (.tmp 27), .some 28)), (none, (.call (.func 97) [.tmp 23, .const (.int .i64 1), .tmp 28], .some 29))] []) (.seq
  (.reg [(none, (.mov (.const (.bool .false)), .some 4))] []) .ret)) .skip))))))) (.seq
  (.reg [(none, (.mov (.tmp 0), .some 30)), (none, (.nilc (.tmp 30), .some 31)), (none, (.fadr 1 (.tmp 31), .some 32)), (none, (.load none (.tmp 32), .some 33)), (none, (.mov (.tmp 1), .some 34)), (none, (.bin .add (.tmp 33) (.tmp 34), .some 35)), (none, (.nilc (.tmp 30), .some 36)), (none, (.fadr 1 (.tmp 36), .some 37)), (none, (.store 1 (.tmp 37) (.tmp 35), none))] []) (.seq
  (.reg [(none, (.mov (.const (.bool .true)), .some 4))] []) .ret)))
theorem b78 : Try.f78.body.bind (compC Try.prog) = some c78 := by kernel_rfl
theorem r78 : compR Try.prog Try.f78 = .some [.tmp 4] := by kernel_rfl
theorem n78 : (Try.f78.name == "runtime.NumGoroutine") = false := by kernel_rfl
def c124 : C := .seq
  (.reg [(none, (.new [.int .i64 0, .int .i64 0], .some 4))] []) (.seq (.seq
  (.reg [(none, (.mov (.tmp 0), .some 5)), (none, (.bin .eql (.tmp 5) (.const (.int .i64 0)), .some 6))] []) (.cond (.tmp 6) (.seq
  (.reg [(none, (.build [.int .i64 0, .int .i64 0] [], .some 7)), (none, (.store 2 (.tmp 4) (.tmp 7), none))] []) .ret) .skip)) (.seq
  (.reg [(none, (.mov (.tmp 0), .some 8)), (none, (.mov (.tmp 1), .some 9)), (none, (.build [.int .i64 0, .int .i64 0] [(0, (1, .tmp 8)), (1, (1, .tmp 9))], .some 10)), (none, (.store 2 (.tmp 4) (.tmp 10), none))] []) .ret))
theorem b124 : Try.f124.body.bind (compC Try.prog) = some c124 := by kernel_rfl
theorem r124 : compR Try.prog Try.f124 = .some [.cell 4 (.some 2)] := by kernel_rfl
theorem n124 : (Try.f124.name == "runtime.NumGoroutine") = false := by kernel_rfl
def c131 : C := .seq
  (.reg [(none, (.mov (.const (.int .i64 0)), .some 2))] []) (.seq
  (.reg [(none, (.mov (.const (.int .i64 1)), .some 3))] []) (.seq (.block 0 (.loop (.seq (.seq
  (.reg [(none, (.mov (.tmp 0), .some 4)), (none, (.bin .geq (.tmp 4) (.const (.int .u64 128)), .some 5))] []) (.cond (.tmp 5) .skip (.exit 0))) (.block 1 (.seq
  (.reg [(none, (.mov (.tmp 0), .some 6)), (none, (.bin .shr (.tmp 6) (.const (.int .u64 7)), .some 7)), (none, (.mov (.tmp 7), .some 0))] [])
  (.reg [(none, (.mov (.tmp 3), .some 8)), (none, (.bin .add (.tmp 8) (.const (.int .i64 1)), .some 9)), (none, (.mov (.tmp 9), .some 3))] [])))))) (.seq
  (.reg [(none, (.mov (.tmp 3), .some 10)), (none, (.mov (.tmp 10), .some 2))] []) .ret)))
theorem b131 : Try.f131.body.bind (compC Try.prog) = some c131 := by kernel_rfl
theorem r131 : compR Try.prog Try.f131 = .some [.tmp 2] := by kernel_rfl
theorem n131 : (Try.f131.name == "runtime.NumGoroutine") = false := by kernel_rfl
def c134 : C := .seq
  (.reg [(none, (.mov (.const (.string (.mk #[]))), .some 0))] []) (.seq
  (.reg [(none, (.mov (.const (.string (.mk (#[84, 72, 79, 76])))), .some 0))] []) .ret)
theorem b134 : Try.f134.body.bind (compC Try.prog) = some c134 := by kernel_rfl
theorem r134 : compR Try.prog Try.f134 = .some [.tmp 0] := by kernel_rfl
theorem n134 : (Try.f134.name == "runtime.NumGoroutine") = false := by kernel_rfl
def c143 : C := .seq
  (.reg [(none, (.mov (.const (.bool .false)), .some 2))] []) (.seq
  (.reg [(none, (.mov (.tmp 0), .some 3)), (none, (.bin .geq (.tmp 3) (.const (.int .u64 1)), .some 4)), (none, (.mov (.tmp 4), .some 5)), (.some (5, .true), (.mov (.tmp 0), .some 6)), (.some (5, .true), (.bin .lss (.tmp 6) (.const (.int .u64 4611686018427387904)), .some 7)), (none, (.pick (.tmp 5) (.tmp 7) (.const (.bool .false)), .some 8)), (none, (.mov (.tmp 8), .some 2))] []) .ret)
theorem b143 : Try.f143.body.bind (compC Try.prog) = some c143 := by kernel_rfl
theorem r143 : compR Try.prog Try.f143 = .some [.tmp 2] := by kernel_rfl
theorem n143 : (Try.f143.name == "runtime.NumGoroutine") = false := by kernel_rfl
def c150 : C := .seq
  (.reg [(none, (.mov (.const (.int .i64 0)), .some 2))] []) (.seq (.seq
  (.reg [(none, (.mov (.tmp 0), .some 3)), (none, (.eqp .false (.tmp 3) (.const (.pointer none)), .some 4))] []) (.cond (.tmp 4) (.seq
  (.reg [(none, (.mov (.const (.int .i64 0)), .some 2))] []) .ret) .skip)) (.seq
  (.reg [(none, (.mov (.tmp 0), .some 5)), (none, (.nilc (.tmp 5), .some 6)), (none, (.fadr 0 (.tmp 6), .some 7)), (none, (.load none (.tmp 7), .some 8)), (none, (.len .false (.tmp 8), .some 9)), (none, (.mov (.tmp 0), .some 10)), (none, (.nilc (.tmp 10), .some 11)), (none, (.fadr 1 (.tmp 11), .some 12)), (none, (.load none (.tmp 12), .some 13)), (none, (.bin .sub (.tmp 9) (.tmp 13), .some 14)), (none, (.mov (.tmp 14), .some 2))] [(3, 8)]) .ret))
theorem b150 : Try.f150.body.bind (compC Try.prog) = some c150 := by kernel_rfl
theorem r150 : compR Try.prog Try.f150 = .some [.tmp 2] := by kernel_rfl
theorem n150 : (Try.f150.name == "runtime.NumGoroutine") = false := by kernel_rfl
def c151 : C := .seq
  (.reg [(none, (.mov (.const (.int .u64 0)), .some 2))] []) (.seq
  (.reg [(none, (.mov (.tmp 0), .some 3)), (none, (.call (.func 164) [.tmp 3, .func 144], .some 4)), (none, (.mov (.tmp 4), .some 2))] []) .ret)
theorem b151 : Try.f151.body.bind (compC Try.prog) = some c151 := by kernel_rfl
theorem r151 : compR Try.prog Try.f151 = .some [.tmp 2] := by kernel_rfl
theorem n151 : (Try.f151.name == "runtime.NumGoroutine") = false := by kernel_rfl
def c160 : C := .reg [(none, (.mov (.tmp 0), .some 4)), (none, (.mov (.tmp 1), .some 5)), (none, (.mov (.tmp 1), .some 6)), (none, (.call (.func 143) [.tmp 6], .some 7)), (none, (.call (.func 186) [.tmp 4, .tmp 5, .tmp 7], .some 8))] []
theorem b160 : Try.f160.body.bind (compC Try.prog) = some c160 := by kernel_rfl
theorem r160 : compR Try.prog Try.f160 = .some [] := by kernel_rfl
theorem n160 : (Try.f160.name == "runtime.NumGoroutine") = false := by kernel_rfl
def c186 : C := .seq (.seq
  (.reg [(none, (.mov (.tmp 2), .some 6)), (none, (.un .not (.tmp 6), .some 7))] []) (.cond (.tmp 7) (.seq
  (.reg [(none, (.mov (.tmp 0), .some 8)), (none, (.call (.func 126) [.tmp 8, .const (.int .i64 3)], .some 9))] []) .ret) .skip))
  (.reg [(none, (.mov (.tmp 0), .some 10)), (none, (.mov (.tmp 1), .some 11)), (none, (.call (.func 127) [.tmp 10, .tmp 11], .some 12))] [])
theorem b186 : Try.f186.body.bind (compC Try.prog) = some c186 := by kernel_rfl
theorem r186 : compR Try.prog Try.f186 = .some [] := by kernel_rfl
theorem n186 : (Try.f186.name == "runtime.NumGoroutine") = false := by kernel_rfl
end Go.Proofs.Ytkhnfleejgfhgaa
