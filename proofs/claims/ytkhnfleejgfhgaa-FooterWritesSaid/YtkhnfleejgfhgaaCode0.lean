/-
  The codes of the seat's functions over abstract values, each shown to be its function's own (by program: wip/tools/codes.py).
-/
import Derived.Test.YtkhnfleejgfhgaaA2
import Derived.Test.YtkhnfleejgfhgaaProg
import Derived.KernelRfl
namespace Go.Proofs.Ytkhnfleejgfhgaa
def c18 : C := .seq
  (.reg [(none, (.box (.tmp 0), .some 3)), (none, (.mov (.const (.bool .false)), .some 6))] []) (.seq (.seq
  (.reg [(none, (.mov (.tmp 1), .some 16)), (none, (.len .false (.tmp 16), .some 17)), (none, (.bin .gtr (.tmp 17) (.const (.int .i64 300)), .some 18))] []) (.cond (.tmp 18) (.seq
  (.reg [(none, (.call (.func 32) [], .some 19)), (none, (.mov (.tmp 19), .some 6))] []) .ret) .skip)) (.seq
  (.reg [(none, (.load (.some 7) (.tmp 3), .some 21)), (none, (.call (.func 88) [.tmp 21], .some 22)), (none, (.mov (.tmp 22), .some 20)), (none, (.ext (.tmp 20) 0, .some 23)), (none, (.ext (.tmp 20) 1, .some 24)), (none, (.mov (.tmp 23), .some 7)), (none, (.mov (.tmp 24), .some 8))] []) (.seq
  (.reg [(none, (.load (.some 7) (.tmp 3), .some 26)), (none, (.call (.func 89) [.tmp 26], .some 27)), (none, (.mov (.tmp 27), .some 25)), (none, (.ext (.tmp 25) 0, .some 28)), (none, (.ext (.tmp 25) 1, .some 29)), (none, (.mov (.tmp 28), .some 9)), (none, (.mov (.tmp 29), .some 10))] []) (.seq (.seq
  (.reg [(none, (.load (.some 7) (.tmp 3), .some 30)), (none, (.call (.func 90) [.tmp 30], .some 31)), (none, (.load (.some 7) (.tmp 3), .some 32)), (none, (.call (.func 35) [.tmp 32], .some 33)), (none, (.call (.func 36) [.tmp 33], .some 34)), (none, (.eqb .true (.tmp 31) (.tmp 34), .some 35)), (none, (.mov (.tmp 35), .some 36)), (.some (36, .false), (.mov (.tmp 8), .some 37)), (.some (36, .false), (.mov (.tmp 10), .some 38)), (.some (36, .false), (.bin .neq (.tmp 37) (.tmp 38), .some 39)), (none, (.pick (.tmp 36) (.const (.bool .true)) (.tmp 39), .some 40)), (none, (.mov (.tmp 40), .some 41)), (.some (41, .false), (.mov (.tmp 2), .some 42)), (.some (41, .false), (.call (.func 91) [.tmp 42], .some 43)), (.some (41, .false), (.mov (.tmp 2), .some 44)), (.some (41, .false), (.call (.func 92) [.tmp 44], .some 45)), (.some (41, .false), (.call (.func 23) [.tmp 43, .tmp 45], .some 46)), (.some (41, .false), (.un .not (.tmp 46), .some 47)), (none, (.pick (.tmp 41) (.const (.bool .true)) (.tmp 47), .some 48))] [(0, 2), (1, 2)]) (.cond (.tmp 48) (.seq
  (.reg [(none, (.mov (.const (.bool .false)), .some 6))] []) .ret) .skip)) (.seq (.seq
  (.reg [(none, (.load (.some 7) (.tmp 3), .some 49)), (none, (.call (.func 35) [.tmp 49], .some 50)), (none, (.call (.func 36) [.tmp 50], .some 51)), (none, (.un .not (.tmp 51), .some 52))] []) (.cond (.tmp 52) (.seq
  (.reg [(none, (.mov (.tmp 8), .some 53)), (none, (.bin .eql (.tmp 53) (.const (.int .i64 3)), .some 54)), (none, (.mov (.tmp 54), .some 55)), (.some (55, .true), (.mov (.tmp 7), .some 56)), (.some (55, .true), (.len .false (.tmp 56), .some 57)), (.some (55, .true), (.mov (.tmp 9), .some 58)), (.some (55, .true), (.len .false (.tmp 58), .some 59)), (.some (55, .true), (.bin .add (.tmp 57) (.tmp 59), .some 60)), (.some (55, .true), (.bin .eql (.tmp 60) (.const (.int .i64 0)), .some 61)), (none, (.pick (.tmp 55) (.tmp 61) (.const (.bool .false)), .some 62)), (none, (.mov (.tmp 62), .some 63)), (.some (63, .true), (.call (.func 32) [], .some 64)), (none, (.pick (.tmp 63) (.tmp 64) (.const (.bool .false)), .some 65)), (none, (.mov (.tmp 65), .some 6))] []) .ret) .skip)) (.seq
  (.reg [(none, (.bsl 1 [], .some 67)), (none, (.mov (.tmp 1), .some 68)), (none, (.app 1 1 (.tmp 67) (.tmp 68), .some 69)), (none, (.mov (.tmp 7), .some 70)), (none, (.app 1 1 (.tmp 69) (.tmp 70), .some 71)), (none, (.call (.func 85) [.tmp 71], .some 72)), (none, (.mov (.tmp 72), .some 66)), (none, (.ext (.tmp 66) 0, .some 73)), (none, (.ext (.tmp 66) 1, .some 74)), (none, (.ext (.tmp 66) 2, .some 75)), (none, (.new [.int .u64 0, .int .i64 0, .int .i64 0, .int .u64 0, .int .u64 0, .int .i64 0, .int .i64 0], .some 11)), (none, (.new [.int .i64 0, .int .i64 0], .some 13)), (none, (.store 7 (.tmp 11) (.tmp 73), none)), (none, (.mov (.tmp 74), .some 12)), (none, (.store 2 (.tmp 13) (.tmp 75), none))] []) (.seq
  (.reg [(none, (.mov (.tmp 9), .some 77)), (none, (.call (.func 33) [.tmp 77], .some 78)), (none, (.mov (.tmp 78), .some 76)), (none, (.ext (.tmp 76) 0, .some 79)), (none, (.ext (.tmp 76) 1, .some 80)), (none, (.new [.int .u64 0, .int .i64 0, .int .i64 0, .int .u64 0, .int .u64 0, .int .i64 0, .int .i64 0], .some 14)), (none, (.new [.int .i64 0, .int .i64 0], .some 15)), (none, (.store 7 (.tmp 14) (.tmp 79), none)), (none, (.store 2 (.tmp 15) (.tmp 80), none))] []) (.seq
  (.reg [(none, (.mov (.tmp 8), .some 81)), (none, (.bin .eql (.tmp 81) (.const (.int .i64 0)), .some 82)), (none, (.mov (.tmp 82), .some 83)), (.some (83, .true), (.mov (.tmp 9), .some 84)), (.some (83, .true), (.load (.some 7) (.tmp 3), .some 85)), (.some (83, .true), (.call (.func 35) [.tmp 85], .some 86)), (.some (83, .true), (.call (.func 37) [.tmp 86], .some 87)), (.some (83, .true), (.call (.func 23) [.tmp 84, .tmp 87], .some 88)), (none, (.pick (.tmp 83) (.tmp 88) (.const (.bool .false)), .some 89)), (none, (.mov (.tmp 89), .some 90)), (.some (90, .true), (.mov (.tmp 7), .some 91)), (.some (90, .true), (.load (.some 7) (.tmp 3), .some 92)), (.some (90, .true), (.call (.func 35) [.tmp 92], .some 93)), (.some (90, .true), (.call (.func 87) [.tmp 93], .some 94)), (.some (90, .true), (.call (.func 23) [.tmp 91, .tmp 94], .some 95)), (none, (.pick (.tmp 90) (.tmp 95) (.const (.bool .false)), .some 96)), (none, (.mov (.tmp 96), .some 97)), (.some (97, .true), (.load (.some 7) (.tmp 11), .some 98)), (.some (97, .true), (.load (.some 7) (.tmp 3), .some 99)), (.some (97, .true), (.eqa .false 7 (.tmp 98) (.tmp 99), .some 100)), (none, (.pick (.tmp 97) (.tmp 100) (.const (.bool .false)), .some 101)), (none, (.mov (.tmp 101), .some 102)), (.some (102, .true), (.mov (.tmp 12), .some 103)), (.some (102, .true), (.mov (.tmp 1), .some 104)), (.some (102, .true), (.len .false (.tmp 104), .some 105)), (.some (102, .true), (.bin .eql (.tmp 103) (.tmp 105), .some 106)), (none, (.pick (.tmp 102) (.tmp 106) (.const (.bool .false)), .some 107)), (none, (.mov (.tmp 107), .some 108)), (.some (108, .true), (.fadr 0 (.tmp 13), .some 109)), (.some (108, .true), (.load none (.tmp 109), .some 110)), (.some (108, .true), (.bin .eql (.tmp 110) (.const (.int .i64 0)), .some 111)), (none, (.pick (.tmp 108) (.tmp 111) (.const (.bool .false)), .some 112)), (none, (.mov (.tmp 112), .some 113)), (.some (113, .true), (.load (.some 7) (.tmp 14), .some 114)), (.some (113, .true), (.load (.some 7) (.tmp 3), .some 115)), (.some (113, .true), (.eqa .false 7 (.tmp 114) (.tmp 115), .some 116)), (none, (.pick (.tmp 113) (.tmp 116) (.const (.bool .false)), .some 117)), (none, (.mov (.tmp 117), .some 118)), (.some (118, .true), (.fadr 0 (.tmp 15), .some 119)), (.some (118, .true), (.load none (.tmp 119), .some 120)), (.some (118, .true), (.bin .eql (.tmp 120) (.const (.int .i64 0)), .some 121)), (none, (.pick (.tmp 118) (.tmp 121) (.const (.bool .false)), .some 122)), (none, (.mov (.tmp 122), .some 123)), (.some (123, .true), (.call (.func 32) [], .some 124)), (none, (.pick (.tmp 123) (.tmp 124) (.const (.bool .false)), .some 125)), (none, (.mov (.tmp 125), .some 6))] []) .ret))))))))
theorem b18 : Try.f18.body.bind (compC Try.prog) = some c18 := by kernel_rfl
theorem r18 : compR Try.prog Try.f18 = .some [.tmp 6] := by kernel_rfl
theorem n18 : (Try.f18.name == "runtime.NumGoroutine") = false := by kernel_rfl
def c49 : C := .seq
  (.reg [(none, (.mov (.const (.int .i64 0)), .some 2))] []) (.seq (.seq
  (.reg [(none, (.mov (.tmp 0), .some 3)), (none, (.eqp .false (.tmp 3) (.const (.pointer none)), .some 4))] []) (.cond (.tmp 4) (.seq
  (.reg [(none, (.mov (.const (.int .i64 0)), .some 2))] []) .ret) .skip)) (.seq
  (.reg [(none, (.mov (.tmp 0), .some 5)), (none, (.nilc (.tmp 5), .some 6)), (none, (.fadr 1 (.tmp 6), .some 7)), (none, (.load none (.tmp 7), .some 8)), (none, (.mov (.tmp 8), .some 2))] []) .ret))
theorem b49 : Try.f49.body.bind (compC Try.prog) = some c49 := by kernel_rfl
theorem r49 : compR Try.prog Try.f49 = .some [.tmp 2] := by kernel_rfl
theorem n49 : (Try.f49.name == "runtime.NumGoroutine") = false := by kernel_rfl
def c53 : C := .seq
  (.reg [(none, (.mov (.const (.pointer none)), .some 2))] []) (.seq
  (.reg [(none, (.mov (.tmp 0), .some 3)), (none, (.mx .true (.tmp 3) (.const (.int .i64 0)), .some 4)), (none, (.build [.int .i64 0, .slice none 0 0, .int .i64 0] [(0, (1, .tmp 4))], .some 5)), (none, (.box (.tmp 5), .some 6)), (none, (.mov (.tmp 6), .some 2))] []) .ret)
theorem b53 : Try.f53.body.bind (compC Try.prog) = some c53 := by kernel_rfl
theorem r53 : compR Try.prog Try.f53 = .some [.tmp 2] := by kernel_rfl
theorem n53 : (Try.f53.name == "runtime.NumGoroutine") = false := by kernel_rfl
def c57 : C := .seq
  (.reg [(none, (.mov (.const (.bool .false)), .some 2))] []) (.seq
  (.reg [(none, (.mov (.tmp 0), .some 3)), (none, (.eqp .true (.tmp 3) (.const (.pointer none)), .some 4)), (none, (.mov (.tmp 4), .some 5)), (.some (5, .true), (.mov (.tmp 0), .some 6)), (.some (5, .true), (.nilc (.tmp 6), .some 7)), (.some (5, .true), (.fadr 2 (.tmp 7), .some 8)), (.some (5, .true), (.load (.some 2) (.tmp 8), .some 9)), (.some (5, .true), (.call (.func 102) [.tmp 9], .some 10)), (none, (.pick (.tmp 5) (.tmp 10) (.const (.bool .false)), .some 11)), (none, (.mov (.tmp 11), .some 2))] []) .ret)
theorem b57 : Try.f57.body.bind (compC Try.prog) = some c57 := by kernel_rfl
theorem r57 : compR Try.prog Try.f57 = .some [.tmp 2] := by kernel_rfl
theorem n57 : (Try.f57.name == "runtime.NumGoroutine") = false := by kernel_rfl
def c87 : C := .seq
  (.reg [(none, (.box (.tmp 0), .some 1)), (none, (.mov (.const (.slice none 0 0)), .some 2))] []) (.seq
  (.reg [(none, (.load (.some 7) (.tmp 1), .some 4)), (none, (.call (.func 37) [.tmp 4], .some 5)), (none, (.call (.func 158) [.tmp 5], .some 6)), (none, (.mov (.tmp 6), .some 3))] []) (.seq
  (.reg [(none, (.mov (.tmp 3), .some 7)), (none, (.mov (.tmp 3), .some 8)), (none, (.len .false (.tmp 8), .some 9)), (none, (.call (.func 92) [.tmp 9], .some 10)), (none, (.app 1 1 (.tmp 7) (.tmp 10), .some 11)), (none, (.mov (.tmp 11), .some 2))] []) .ret))
theorem b87 : Try.f87.body.bind (compC Try.prog) = some c87 := by kernel_rfl
theorem r87 : compR Try.prog Try.f87 = .some [.tmp 2] := by kernel_rfl
theorem n87 : (Try.f87.name == "runtime.NumGoroutine") = false := by kernel_rfl
def c89 : C := .seq
  (.reg [(none, (.box (.tmp 0), .some 1)), (none, (.mov (.const (.slice none 0 0)), .some 2)), (none, (.mov (.const (.int .i64 0)), .some 3))] []) (.seq
  (.reg [(none, (.call (.func 53) [.const (.int .i64 80)], .some 7)), (none, (.mov (.tmp 7), .some 4))] []) (.seq (.seq
  (.reg [(none, (.load (.some 7) (.tmp 1), .some 8)), (none, (.call (.func 90) [.tmp 8], .some 9)), (none, (.un .not (.tmp 9), .some 10))] []) (.cond (.tmp 10)
  (.reg [(none, (.mov (.tmp 4), .some 11)), (none, (.call (.func 126) [.tmp 11, .const (.int .i64 3)], .some 12))] []) .skip)) (.seq
  (.reg [(none, (.mov (.tmp 4), .some 13)), (none, (.bsl 1 [.const (.int .u8 3)], .some 14)), (none, (.call (.func 140) [.tmp 13, .tmp 14], .some 15))] []) (.seq
  (.reg [(none, (.mov (.tmp 4), .some 16)), (none, (.fadr 0 (.tmp 1), .some 17)), (none, (.load none (.tmp 17), .some 18)), (none, (.call (.func 160) [.tmp 16, .tmp 18], .some 19))] []) (.seq (.seq
  (.reg [(none, (.fadr 1 (.tmp 1), .some 20)), (none, (.load none (.tmp 20), .some 21)), (none, (.cvt .u64 (.tmp 21), .some 22)), (none, (.fadr 2 (.tmp 1), .some 23)), (none, (.load none (.tmp 23), .some 24)), (none, (.cvt .u64 (.tmp 24), .some 25)), (none, (.fadr 3 (.tmp 1), .some 26)), (none, (.load none (.tmp 26), .some 27)), (none, (.fadr 4 (.tmp 1), .some 28)), (none, (.load none (.tmp 28), .some 29)), (none, (.fadr 5 (.tmp 1), .some 30)), (none, (.load none (.tmp 30), .some 31)), (none, (.cvt .u64 (.tmp 31), .some 32)), (none, (.fadr 6 (.tmp 1), .some 33)), (none, (.load none (.tmp 33), .some 34)), (none, (.cvt .u64 (.tmp 34), .some 35)), (none, (.bsl 1 [.tmp 22, .tmp 25, .tmp 27, .tmp 29, .tmp 32, .tmp 35], .some 36)), (none, (.len .false (.tmp 36), .some 37)), (none, (.mov (.const (.int .i64 0)), .some 38))] []) (.block 0 (.loop (.seq
  (.reg [(none, (.bin .lss (.tmp 38) (.tmp 37), .some 39))] []) (.seq (.cond (.tmp 39) .skip (.exit 0)) (.seq (.block 1 (.seq
  (.reg [(none, (.iadr 1 (.tmp 36) (.tmp 38), .some 40)), (none, (.load none (.tmp 40), .some 41)), (none, (.mov (.tmp 41), .some 6))] [])
  (.reg [(none, (.mov (.tmp 4), .some 42)), (none, (.mov (.tmp 6), .some 43)), (none, (.call (.func 127) [.tmp 42, .tmp 43], .some 44))] [])))
  (.reg [(none, (.bin .add (.tmp 38) (.const (.int .i64 1)), .some 45)), (none, (.mov (.tmp 45), .some 38))] []))))))) (.seq
  (.reg [(none, (.mov (.tmp 4), .some 46)), (none, (.call (.func 55) [.tmp 46], .some 47)), (none, (.ext (.tmp 47) 0, .some 48)), (none, (.ext (.tmp 47) 1, .some 49)), (none, (.mov (.tmp 48), .some 2)), (none, (.mov (.tmp 49), .some 3))] []) .ret))))))
theorem b89 : Try.f89.body.bind (compC Try.prog) = some c89 := by kernel_rfl
theorem r89 : compR Try.prog Try.f89 = .some [.tmp 2, .tmp 3] := by kernel_rfl
theorem n89 : (Try.f89.name == "runtime.NumGoroutine") = false := by kernel_rfl
def c92 : C := .seq
  (.reg [(none, (.mov (.const (.slice none 0 0)), .some 2))] []) (.seq
  (.reg [(none, (.mov (.tmp 0), .some 5)), (none, (.cvt .u64 (.tmp 5), .some 6)), (none, (.call (.func 147) [.tmp 6, .const (.int .i64 4)], .some 7)), (none, (.mov (.tmp 7), .some 3))] []) (.seq
  (.reg [(none, (.mov (.const (.slice none 0 0)), .some 4))] []) (.seq
  (.reg [(none, (.mov (.tmp 4), .some 8)), (none, (.mov (.tmp 3), .some 9)), (none, (.app 1 1 (.tmp 8) (.tmp 9), .some 10)), (none, (.mov (.tmp 10), .some 4))] []) (.seq
  (.reg [(none, (.mov (.tmp 4), .some 11)), (none, (.mov (.tmp 3), .some 12)), (none, (.call (.func 148) [.tmp 12], .some 13)), (none, (.cvt .u64 (.tmp 13), .some 14)), (none, (.call (.func 147) [.tmp 14, .const (.int .i64 4)], .some 15)), (none, (.app 1 1 (.tmp 11) (.tmp 15), .some 16)), (none, (.mov (.tmp 16), .some 4))] []) (.seq
  (.reg [(none, (.mov (.tmp 4), .some 17)), (none, (.bsl 1 [.const (.int .u8 76), .const (.int .u8 79), .const (.int .u8 72), .const (.int .u8 84)], .some 18)), (none, (.app 1 1 (.tmp 17) (.tmp 18), .some 19)), (none, (.mov (.tmp 19), .some 2))] []) .ret)))))
theorem b92 : Try.f92.body.bind (compC Try.prog) = some c92 := by kernel_rfl
theorem r92 : compR Try.prog Try.f92 = .some [.tmp 2] := by kernel_rfl
theorem n92 : (Try.f92.name == "runtime.NumGoroutine") = false := by kernel_rfl
def c95 : C := .seq
  (.reg [(none, (.mov (.const (.int .i64 0)), .some 0))] []) (.seq
  (.reg [(none, (.mov (.const (.int .i64 12)), .some 0))] []) .ret)
theorem b95 : Try.f95.body.bind (compC Try.prog) = some c95 := by kernel_rfl
theorem r95 : compR Try.prog Try.f95 = .some [.tmp 0] := by kernel_rfl
theorem n95 : (Try.f95.name == "runtime.NumGoroutine") = false := by kernel_rfl
def c140 : C := .block 0 (.seq
  (.reg [(none, (.mov (.tmp 0), .some 14)), (none, (.call (.func 130) [.tmp 14], .some 15)), (none, (.bin .neq (.tmp 15) (.const (.int .i64 0)), .some 16)), (none, (.mov (.tmp 16), .some 13))] []) (.cond (.tmp 13) .skip (.seq
  (.reg [(none, (.mov (.tmp 1), .some 18)), (none, (.len .false (.tmp 18), .some 19)), (none, (.mov (.tmp 0), .some 20)), (none, (.call (.func 174) [.tmp 20], .some 21)), (none, (.bin .gtr (.tmp 19) (.tmp 21), .some 22)), (none, (.mov (.tmp 22), .some 17))] []) (.cond (.tmp 17)
  (.reg [(none, (.mov (.tmp 0), .some 23)), (none, (.call (.func 126) [.tmp 23, .const (.int .i64 2)], .some 24))] [])
  (.reg [(none, (.mov (.tmp 0), .some 4)), (none, (.mov (.tmp 0), .some 5)), (none, (.nilc (.tmp 5), .some 6)), (none, (.fadr 1 (.tmp 6), .some 7)), (none, (.load none (.tmp 7), .some 8)), (none, (.mov (.tmp 1), .some 9)), (none, (.app 1 1 (.tmp 8) (.tmp 9), .some 10)), (none, (.nilc (.tmp 4), .some 11)), (none, (.fadr 1 (.tmp 11), .some 12)), (none, (.store 1 (.tmp 12) (.tmp 10), none))] [])))))
theorem b140 : Try.f140.body.bind (compC Try.prog) = some c140 := by kernel_rfl
theorem r140 : compR Try.prog Try.f140 = .some [] := by kernel_rfl
theorem n140 : (Try.f140.name == "runtime.NumGoroutine") = false := by kernel_rfl
def c142 : C := .seq
  (.reg [(none, (.mov (.const (.int .u32 0)), .some 2))] []) (.seq
  (.reg [(none, (.call (.func 177) [], .some 3)), (none, (.mov (.tmp 0), .some 4)), (none, (.call (.func 176) [.tmp 3, .tmp 4], .some 5)), (none, (.call (.func 175) [.tmp 5], .some 6)), (none, (.mov (.tmp 6), .some 2))] []) .ret)
theorem b142 : Try.f142.body.bind (compC Try.prog) = some c142 := by kernel_rfl
theorem r142 : compR Try.prog Try.f142 = .some [.tmp 2] := by kernel_rfl
theorem n142 : (Try.f142.name == "runtime.NumGoroutine") = false := by kernel_rfl
def c147 : C := .seq
  (.reg [(none, (.mov (.const (.slice none 0 0)), .some 4))] []) (.seq
  (.reg [(none, (.mov (.const (.slice none 0 0)), .some 5))] []) (.seq (.seq
  (.reg [(none, (.mov (.const (.int .i64 0)), .some 6))] []) (.block 0 (.loop (.seq (.seq
  (.reg [(none, (.mov (.tmp 6), .some 7)), (none, (.mov (.tmp 1), .some 8)), (none, (.bin .lss (.tmp 7) (.tmp 8), .some 9)), (none, (.mov (.tmp 9), .some 10)), (.some (10, .true), (.mov (.tmp 6), .some 11)), (.some (10, .true), (.bin .lss (.tmp 11) (.const (.int .i64 8)), .some 12)), (none, (.pick (.tmp 10) (.tmp 12) (.const (.bool .false)), .some 13))] []) (.cond (.tmp 13) .skip (.exit 0))) (.seq (.block 1
  (.reg [(none, (.mov (.tmp 5), .some 16)), (none, (.mov (.tmp 0), .some 17)), (none, (.mov (.tmp 6), .some 18)), (none, (.bin .mul (.const (.int .i64 8)) (.tmp 18), .some 19)), (none, (.cvt .u64 (.tmp 19), .some 20)), (none, (.bin .shr (.tmp 17) (.tmp 20), .some 21)), (none, (.cvt .u8 (.tmp 21), .some 22)), (none, (.bsl 1 [.tmp 22], .some 23)), (none, (.app 1 1 (.tmp 16) (.tmp 23), .some 24)), (none, (.mov (.tmp 24), .some 5))] []))
  (.reg [(none, (.mov (.tmp 6), .some 14)), (none, (.bin .add (.tmp 14) (.const (.int .i64 1)), .some 15)), (none, (.mov (.tmp 15), .some 6))] [])))))) (.seq
  (.reg [(none, (.mov (.tmp 5), .some 25)), (none, (.mov (.tmp 25), .some 4))] []) .ret)))
theorem b147 : Try.f147.body.bind (compC Try.prog) = some c147 := by kernel_rfl
theorem r147 : compR Try.prog Try.f147 = .some [.tmp 4] := by kernel_rfl
theorem n147 : (Try.f147.name == "runtime.NumGoroutine") = false := by kernel_rfl
def c154 : C := .seq
  (.reg [(none, (.mov (.const (.slice none 0 0)), .some 4)), (none, (.mov (.const (.int .i64 0)), .some 5)), (none, (.new [.int .i64 0, .int .i64 0], .some 6))] []) (.seq
  (.reg [(none, (.mov (.tmp 0), .some 10)), (none, (.call (.func 44) [.tmp 10], .some 11)), (none, (.mov (.tmp 11), .some 7))] []) (.seq
  (.reg [(none, (.mov (.tmp 7), .some 12)), (none, (.mov (.tmp 1), .some 13)), (none, (.call (.func 181) [.tmp 12, .tmp 13], .some 14)), (none, (.mov (.tmp 14), .some 8))] []) (.seq (.seq
  (.reg [(none, (.mov (.tmp 7), .some 15)), (none, (.call (.func 48) [.tmp 15], .some 16)), (none, (.new [.int .i64 0, .int .i64 0], .some 9)), (none, (.store 2 (.tmp 9) (.tmp 16), none))] []) (.seq
  (.reg [(none, (.load (.some 2) (.tmp 9), .some 17)), (none, (.call (.func 102) [.tmp 17], .some 18)), (none, (.un .not (.tmp 18), .some 19))] []) (.cond (.tmp 19) (.seq
  (.reg [(none, (.load (.some 2) (.tmp 9), .some 20)), (none, (.mov (.const (.slice none 0 0)), .some 4)), (none, (.mov (.const (.int .i64 0)), .some 5)), (none, (.store 2 (.tmp 6) (.tmp 20), none))] []) .ret) .skip))) (.seq
  (.reg [(none, (.mov (.tmp 8), .some 21)), (none, (.mov (.tmp 7), .some 22)), (none, (.call (.func 49) [.tmp 22], .some 23)), (none, (.build [.int .i64 0, .int .i64 0] [], .some 24)), (none, (.mov (.tmp 21), .some 4)), (none, (.mov (.tmp 23), .some 5)), (none, (.store 2 (.tmp 6) (.tmp 24), none))] []) .ret))))
theorem b154 : Try.f154.body.bind (compC Try.prog) = some c154 := by kernel_rfl
theorem r154 : compR Try.prog Try.f154 = .some [.tmp 4, .tmp 5, .cell 6 (.some 2)] := by kernel_rfl
theorem n154 : (Try.f154.name == "runtime.NumGoroutine") = false := by kernel_rfl
def c158 : C := .seq
  (.reg [(none, (.mov (.const (.slice none 0 0)), .some 2))] []) (.seq
  (.reg [(none, (.mov (.tmp 0), .some 3)), (none, (.call (.func 183) [.tmp 3], .some 4)), (none, (.mov (.tmp 0), .some 5)), (none, (.call (.func 148) [.tmp 5], .some 6)), (none, (.cvt .u64 (.tmp 6), .some 7)), (none, (.call (.func 147) [.tmp 7, .const (.int .i64 4)], .some 8)), (none, (.app 1 1 (.tmp 4) (.tmp 8), .some 9)), (none, (.mov (.tmp 9), .some 2))] []) .ret)
theorem b158 : Try.f158.body.bind (compC Try.prog) = some c158 := by kernel_rfl
theorem r158 : compR Try.prog Try.f158 = .some [.tmp 2] := by kernel_rfl
theorem n158 : (Try.f158.name == "runtime.NumGoroutine") = false := by kernel_rfl
def c159 : C := .seq
  (.reg [(none, (.mov (.const (.slice none 0 0)), .some 2)), (none, (.mov (.const (.int .i64 0)), .some 3))] []) (.seq
  (.reg [(none, (.mov (.tmp 0), .some 5)), (none, (.len .false (.tmp 5), .some 6)), (none, (.call (.func 184) [.tmp 6], .some 7)), (none, (.call (.func 53) [.tmp 7], .some 8)), (none, (.mov (.tmp 8), .some 4))] []) (.seq
  (.reg [(none, (.mov (.tmp 4), .some 9)), (none, (.mov (.tmp 0), .some 10)), (none, (.call (.func 185) [.tmp 9, .tmp 10], .some 11))] []) (.seq
  (.reg [(none, (.mov (.tmp 4), .some 12)), (none, (.call (.func 55) [.tmp 12], .some 13)), (none, (.ext (.tmp 13) 0, .some 14)), (none, (.ext (.tmp 13) 1, .some 15)), (none, (.mov (.tmp 14), .some 2)), (none, (.mov (.tmp 15), .some 3))] []) .ret)))
theorem b159 : Try.f159.body.bind (compC Try.prog) = some c159 := by kernel_rfl
theorem r159 : compR Try.prog Try.f159 = .some [.tmp 2, .tmp 3] := by kernel_rfl
theorem n159 : (Try.f159.name == "runtime.NumGoroutine") = false := by kernel_rfl
def c160 : C := .reg [(none, (.mov (.tmp 0), .some 4)), (none, (.mov (.tmp 1), .some 5)), (none, (.mov (.tmp 1), .some 6)), (none, (.call (.func 143) [.tmp 6], .some 7)), (none, (.call (.func 186) [.tmp 4, .tmp 5, .tmp 7], .some 8))] []
theorem b160 : Try.f160.body.bind (compC Try.prog) = some c160 := by kernel_rfl
theorem r160 : compR Try.prog Try.f160 = .some [] := by kernel_rfl
theorem n160 : (Try.f160.name == "runtime.NumGoroutine") = false := by kernel_rfl
def c165 : C := .seq
  (.reg [(none, (.mov (.const (.int .u64 0)), .some 4))] []) (.seq
  (.reg [(none, (.mov (.tmp 0), .some 7)), (none, (.call (.func 49) [.tmp 7], .some 8)), (none, (.mov (.tmp 8), .some 5))] []) (.seq
  (.reg [(none, (.mov (.tmp 0), .some 9)), (none, (.call (.func 100) [.tmp 9], .some 10)), (none, (.mov (.tmp 10), .some 6))] []) (.seq (.seq
  (.reg [(none, (.mov (.tmp 6), .some 11)), (none, (.mov (.tmp 1), .some 12)), (none, (.bin .gtr (.tmp 11) (.tmp 12), .some 13))] []) (.cond (.tmp 13) (.seq
  (.reg [(none, (.mov (.tmp 0), .some 14)), (none, (.mov (.tmp 5), .some 15)), (none, (.call (.func 97) [.tmp 14, .const (.int .i64 2), .tmp 15], .some 16))] []) (.seq
  (.reg [(none, (.mov (.const (.int .u64 0)), .some 4))] []) .ret)) .skip)) (.seq
  (.reg [(none, (.mov (.tmp 6), .some 17)), (none, (.mov (.tmp 17), .some 4))] []) .ret))))
theorem b165 : Try.f165.body.bind (compC Try.prog) = some c165 := by kernel_rfl
theorem r165 : compR Try.prog Try.f165 = .some [.tmp 4] := by kernel_rfl
theorem n165 : (Try.f165.name == "runtime.NumGoroutine") = false := by kernel_rfl
def c177 : C := .seq
  (.reg [(none, (.mov (.const (.int .u32 0)), .some 0))] []) (.seq
  (.reg [(none, (.mov (.const (.int .u32 4294967295)), .some 0))] []) .ret)
theorem b177 : Try.f177.body.bind (compC Try.prog) = some c177 := by kernel_rfl
theorem r177 : compR Try.prog Try.f177 = .some [.tmp 0] := by kernel_rfl
theorem n177 : (Try.f177.name == "runtime.NumGoroutine") = false := by kernel_rfl
def c188 : C := .seq
  (.reg [(none, (.new [.int .u32 0, .int .u32 0, .int .u32 0, .int .u32 0, .int .u32 0, .int .u32 0, .int .u32 0, .int .u32 0, .int .u32 0, .int .u32 0, .int .u32 0, .int .u32 0, .int .u32 0, .int .u32 0, .int .u32 0, .int .u32 0], .some 0))] []) (.seq
  (.reg [(none, (.new [.int .u32 0, .int .u32 0, .int .u32 0, .int .u32 0, .int .u32 0, .int .u32 0, .int .u32 0, .int .u32 0, .int .u32 0, .int .u32 0, .int .u32 0, .int .u32 0, .int .u32 0, .int .u32 0, .int .u32 0, .int .u32 0], .some 1))] []) (.seq (.seq
  (.reg [(none, (.mov (.const (.int .i64 0)), .some 4))] []) (.block 0 (.loop (.seq
  (.reg [(none, (.bin .lss (.tmp 4) (.const (.int .i64 16)), .some 5))] []) (.seq (.cond (.tmp 5) .skip (.exit 0)) (.seq (.block 1 (.seq
  (.reg [(none, (.mov (.tmp 4), .some 6)), (none, (.mov (.tmp 6), .some 2))] []) (.seq
  (.reg [(none, (.mov (.tmp 2), .some 7)), (none, (.cvt .u32 (.tmp 7), .some 8)), (none, (.mov (.tmp 8), .some 3))] []) (.seq (.seq
  (.reg [(none, (.mov (.const (.int .i64 0)), .some 9))] []) (.block 2 (.loop (.seq
  (.reg [(none, (.bin .lss (.tmp 9) (.const (.int .i64 4)), .some 10))] []) (.seq (.cond (.tmp 10) .skip (.exit 2)) (.seq (.block 3
  (.reg [(none, (.mov (.tmp 3), .some 11)), (none, (.call (.func 196) [.tmp 11], .some 12)), (none, (.mov (.tmp 12), .some 3))] []))
  (.reg [(none, (.bin .add (.tmp 9) (.const (.int .i64 1)), .some 13)), (none, (.mov (.tmp 13), .some 9))] [])))))))
  (.reg [(none, (.mov (.tmp 2), .some 14)), (none, (.mov (.tmp 3), .some 15)), (none, (.aadr 16 1 (.tmp 1) (.tmp 14), .some 16)), (none, (.store 1 (.tmp 16) (.tmp 15), none))] [])))))
  (.reg [(none, (.bin .add (.tmp 4) (.const (.int .i64 1)), .some 17)), (none, (.mov (.tmp 17), .some 4))] []))))))) (.seq
  (.reg [(none, (.load (.some 16) (.tmp 1), .some 18)), (none, (.store 16 (.tmp 0) (.tmp 18), none))] []) .ret)))
theorem b188 : Try.f188.body.bind (compC Try.prog) = some c188 := by kernel_rfl
theorem r188 : compR Try.prog Try.f188 = .some [.cell 0 (.some 16)] := by kernel_rfl
theorem n188 : (Try.f188.name == "runtime.NumGoroutine") = false := by kernel_rfl
def c192 : C := .seq
  (.reg [(none, (.mov (.tmp 0), .some 8)), (none, (.call (.func 142) [.tmp 8], .some 9)), (none, (.cvt .u64 (.tmp 9), .some 10)), (none, (.mov (.tmp 1), .some 11)), (none, (.bin .neq (.tmp 10) (.tmp 11), .some 12))] []) (.cond (.tmp 12)
  (.reg [(none, (.mov (.tmp 2), .some 13)), (none, (.mov (.tmp 3), .some 14)), (none, (.call (.tmp 13) [.const (.int .i64 6), .tmp 14], .some 15))] []) .skip)
theorem b192 : Try.f192.body.bind (compC Try.prog) = some c192 := by kernel_rfl
theorem r192 : compR Try.prog Try.f192 = .some [] := by kernel_rfl
theorem n192 : (Try.f192.name == "runtime.NumGoroutine") = false := by kernel_rfl
end Go.Proofs.Ytkhnfleejgfhgaa
