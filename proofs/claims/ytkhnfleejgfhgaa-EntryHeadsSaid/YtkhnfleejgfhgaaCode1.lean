/-
  The codes of the seat's functions over abstract values, each shown to be its function's own (by program: wip/tools/codes.py).
-/
import Derived.Test.YtkhnfleejgfhgaaA2
import Derived.Test.YtkhnfleejgfhgaaProg
import Derived.KernelRfl
namespace Go.Proofs.Ytkhnfleejgfhgaa
def c9 : C := .seq
  (.reg [(none, (.mov (.const (.bool .false)), .some 6))] []) (.seq (.seq
  (.reg [(none, (.mov (.tmp 1), .some 12)), (none, (.call (.func 38) [.tmp 12], .some 13)), (none, (.mov (.tmp 13), .some 14)), (.some (14, .false), (.mov (.tmp 2), .some 15)), (.some (14, .false), (.len .false (.tmp 15), .some 16)), (.some (14, .false), (.bin .gtr (.tmp 16) (.const (.int .i64 300)), .some 17)), (none, (.pick (.tmp 14) (.const (.bool .true)) (.tmp 17), .some 18))] []) (.cond (.tmp 18) (.seq
  (.reg [(none, (.call (.func 40) [], .some 19)), (none, (.mov (.tmp 19), .some 6))] []) .ret) .skip)) (.seq
  (.reg [(none, (.call (.func 53) [.const (.int .i64 4000)], .some 20)), (none, (.mov (.tmp 20), .some 7))] []) (.seq
  (.reg [(none, (.mov (.tmp 7), .some 21)), (none, (.mov (.tmp 0), .some 22)), (none, (.mov (.tmp 1), .some 23)), (none, (.call (.func 54) [.tmp 21, .tmp 22, .tmp 23], .some 24))] []) (.seq
  (.reg [(none, (.mov (.tmp 7), .some 26)), (none, (.call (.func 55) [.tmp 26], .some 27)), (none, (.mov (.tmp 27), .some 25)), (none, (.ext (.tmp 25) 0, .some 28)), (none, (.ext (.tmp 25) 1, .some 29)), (none, (.mov (.tmp 28), .some 8)), (none, (.mov (.tmp 29), .some 9))] []) (.seq (.seq
  (.reg [(none, (.mov (.tmp 0), .some 30)), (none, (.mov (.tmp 1), .some 31)), (none, (.call (.func 41) [.tmp 30, .tmp 31], .some 32)), (none, (.mov (.tmp 0), .some 33)), (none, (.mov (.tmp 1), .some 34)), (none, (.call (.func 39) [.tmp 33, .tmp 34], .some 35)), (none, (.eqb .true (.tmp 32) (.tmp 35), .some 36))] []) (.cond (.tmp 36) (.seq
  (.reg [(none, (.mov (.const (.bool .false)), .some 6))] []) .ret) .skip)) (.seq (.seq
  (.reg [(none, (.mov (.tmp 0), .some 37)), (none, (.mov (.tmp 1), .some 38)), (none, (.call (.func 39) [.tmp 37, .tmp 38], .some 39)), (none, (.un .not (.tmp 39), .some 40))] []) (.cond (.tmp 40) (.seq
  (.reg [(none, (.mov (.tmp 9), .some 41)), (none, (.bin .eql (.tmp 41) (.const (.int .i64 3)), .some 42)), (none, (.mov (.tmp 42), .some 43)), (.some (43, .true), (.mov (.tmp 8), .some 44)), (.some (43, .true), (.len .false (.tmp 44), .some 45)), (.some (43, .true), (.bin .eql (.tmp 45) (.const (.int .i64 0)), .some 46)), (none, (.pick (.tmp 43) (.tmp 46) (.const (.bool .false)), .some 47)), (none, (.mov (.tmp 47), .some 48)), (.some (48, .true), (.mov (.tmp 0), .some 49)), (.some (48, .true), (.mov (.tmp 1), .some 50)), (.some (48, .true), (.call (.func 56) [.tmp 49, .tmp 50], .some 51)), (.some (48, .true), (.bin .eql (.tmp 51) (.const (.int .i64 0)), .some 52)), (none, (.pick (.tmp 48) (.tmp 52) (.const (.bool .false)), .some 53)), (none, (.mov (.tmp 53), .some 54)), (.some (54, .true), (.call (.func 40) [], .some 55)), (none, (.pick (.tmp 54) (.tmp 55) (.const (.bool .false)), .some 56)), (none, (.mov (.tmp 56), .some 6))] []) .ret) .skip)) (.seq
  (.reg [(none, (.bsl 1 [], .some 57)), (none, (.mov (.tmp 8), .some 58)), (none, (.app 1 1 (.tmp 57) (.tmp 58), .some 59)), (none, (.mov (.tmp 2), .some 60)), (none, (.app 1 1 (.tmp 59) (.tmp 60), .some 61)), (none, (.call (.func 44) [.tmp 61], .some 62)), (none, (.mov (.tmp 62), .some 10))] []) (.seq
  (.reg [(none, (.mov (.tmp 10), .some 63)), (none, (.mov (.tmp 0), .some 64)), (none, (.call (.func 45) [.tmp 63, .tmp 64], .some 65)), (none, (.mov (.tmp 65), .some 11))] []) (.seq
  (.reg [(none, (.mov (.tmp 9), .some 66)), (none, (.bin .eql (.tmp 66) (.const (.int .i64 0)), .some 67)), (none, (.mov (.tmp 67), .some 68)), (.some (68, .true), (.mov (.tmp 8), .some 69)), (.some (68, .true), (.mov (.tmp 0), .some 70)), (.some (68, .true), (.mov (.tmp 1), .some 71)), (.some (68, .true), (.call (.func 50) [.tmp 70, .tmp 71], .some 72)), (.some (68, .true), (.call (.func 23) [.tmp 69, .tmp 72], .some 73)), (none, (.pick (.tmp 68) (.tmp 73) (.const (.bool .false)), .some 74)), (none, (.mov (.tmp 74), .some 75)), (.some (75, .true), (.mov (.tmp 0), .some 76)), (.some (75, .true), (.mov (.tmp 1), .some 77)), (.some (75, .true), (.call (.func 56) [.tmp 76, .tmp 77], .some 78)), (.some (75, .true), (.mov (.tmp 8), .some 79)), (.some (75, .true), (.len .false (.tmp 79), .some 80)), (.some (75, .true), (.bin .eql (.tmp 78) (.tmp 80), .some 81)), (none, (.pick (.tmp 75) (.tmp 81) (.const (.bool .false)), .some 82)), (none, (.mov (.tmp 82), .some 83)), (.some (83, .true), (.mov (.tmp 10), .some 84)), (.some (83, .true), (.call (.func 57) [.tmp 84], .some 85)), (none, (.pick (.tmp 83) (.tmp 85) (.const (.bool .false)), .some 86)), (none, (.mov (.tmp 86), .some 87)), (.some (87, .true), (.mov (.tmp 10), .some 88)), (.some (87, .true), (.call (.func 49) [.tmp 88], .some 89)), (.some (87, .true), (.mov (.tmp 8), .some 90)), (.some (87, .true), (.len .false (.tmp 90), .some 91)), (.some (87, .true), (.bin .eql (.tmp 89) (.tmp 91), .some 92)), (none, (.pick (.tmp 87) (.tmp 92) (.const (.bool .false)), .some 93)), (none, (.mov (.tmp 93), .some 94)), (.some (94, .true), (.mov (.tmp 11), .some 95)), (.some (94, .true), (.mov (.tmp 1), .some 96)), (.some (94, .true), (.call (.func 47) [.tmp 95, .tmp 96], .some 97)), (none, (.pick (.tmp 94) (.tmp 97) (.const (.bool .false)), .some 98)), (none, (.mov (.tmp 98), .some 99)), (.some (99, .true), (.call (.func 40) [], .some 100)), (none, (.pick (.tmp 99) (.tmp 100) (.const (.bool .false)), .some 101)), (none, (.mov (.tmp 101), .some 6))] []) .ret)))))))))
theorem b9 : Try.f9.body.bind (compC Try.prog) = some c9 := by kernel_rfl
theorem r9 : compR Try.prog Try.f9 = .some [.tmp 6] := by kernel_rfl
theorem n9 : (Try.f9.name == "runtime.NumGoroutine") = false := by kernel_rfl
def c20 : C := .seq
  (.reg [(none, (.mov (.const (.bool .false)), .some 0))] []) (.seq
  (.reg [(none, (.call (.func 53) [.const (.int .i64 9)], .some 4)), (none, (.mov (.tmp 4), .some 1))] []) (.seq
  (.reg [(none, (.mov (.tmp 1), .some 5)), (none, (.bsl 1 [.const (.int .u8 7), .const (.int .u8 8)], .some 6)), (none, (.build [.slice none 0 0, .slice none 0 0] [(1, (1, .tmp 6))], .some 7)), (none, (.call (.func 80) [.tmp 5, .const (.int .u64 10), .tmp 7], .some 8))] []) (.seq
  (.reg [(none, (.mov (.tmp 1), .some 10)), (none, (.call (.func 55) [.tmp 10], .some 11)), (none, (.mov (.tmp 11), .some 9)), (none, (.ext (.tmp 9) 0, .some 12)), (none, (.ext (.tmp 9) 1, .some 13)), (none, (.mov (.tmp 12), .some 2)), (none, (.mov (.tmp 13), .some 3))] []) (.seq
  (.reg [(none, (.mov (.tmp 3), .some 14)), (none, (.bin .eql (.tmp 14) (.const (.int .i64 0)), .some 15)), (none, (.mov (.tmp 15), .some 16)), (.some (16, .true), (.mov (.tmp 2), .some 17)), (.some (16, .true), (.bsl 1 [.const (.int .u8 0), .const (.int .u8 2)], .some 18)), (.some (16, .true), (.call (.func 23) [.tmp 17, .tmp 18], .some 19)), (none, (.pick (.tmp 16) (.tmp 19) (.const (.bool .false)), .some 20)), (none, (.mov (.tmp 20), .some 0))] []) .ret))))
theorem b20 : Try.f20.body.bind (compC Try.prog) = some c20 := by kernel_rfl
theorem r20 : compR Try.prog Try.f20 = .some [.tmp 0] := by kernel_rfl
theorem n20 : (Try.f20.name == "runtime.NumGoroutine") = false := by kernel_rfl
def c23 : C := .seq
  (.reg [(none, (.mov (.const (.bool .false)), .some 4))] []) (.seq
  (.reg [(none, (.mov (.tmp 0), .some 5)), (none, (.b2s (.tmp 5), .some 6)), (none, (.mov (.tmp 1), .some 7)), (none, (.b2s (.tmp 7), .some 8)), (none, (.bin .eql (.tmp 6) (.tmp 8), .some 9)), (none, (.mov (.tmp 9), .some 4))] []) .ret)
theorem b23 : Try.f23.body.bind (compC Try.prog) = some c23 := by kernel_rfl
theorem r23 : compR Try.prog Try.f23 = .some [.tmp 4] := by kernel_rfl
theorem n23 : (Try.f23.name == "runtime.NumGoroutine") = false := by kernel_rfl
def c28 : C := .seq
  (.reg [(none, (.box (.tmp 0), .some 1)), (none, (.mov (.const (.bool .false)), .some 2))] []) (.seq
  (.reg [(none, (.fadr 0 (.tmp 1), .some 3)), (none, (.load none (.tmp 3), .some 4)), (none, (.call (.func 38) [.tmp 4], .some 5)), (none, (.mov (.tmp 5), .some 6)), (.some (6, .false), (.fadr 1 (.tmp 1), .some 7)), (.some (6, .false), (.load none (.tmp 7), .some 8)), (.some (6, .false), (.len .false (.tmp 8), .some 9)), (.some (6, .false), (.bin .gtr (.tmp 9) (.const (.int .i64 500)), .some 10)), (none, (.pick (.tmp 6) (.const (.bool .true)) (.tmp 10), .some 11)), (none, (.mov (.tmp 11), .some 2))] []) .ret)
theorem b28 : Try.f28.body.bind (compC Try.prog) = some c28 := by kernel_rfl
theorem r28 : compR Try.prog Try.f28 = .some [.tmp 2] := by kernel_rfl
theorem n28 : (Try.f28.name == "runtime.NumGoroutine") = false := by kernel_rfl
def c44 : C := .seq
  (.reg [(none, (.mov (.const (.pointer none)), .some 2))] []) (.seq
  (.reg [(none, (.mov (.tmp 0), .some 3)), (none, (.mov (.tmp 0), .some 4)), (none, (.len .false (.tmp 4), .some 5)), (none, (.mov (.tmp 0), .some 6)), (none, (.len .false (.tmp 6), .some 7)), (none, (.slice 1 (.tmp 3) none (.some (.tmp 5)) (.some (.tmp 7)), .some 8)), (none, (.build [.slice none 0 0, .int .i64 0, .int .i64 0, .int .i64 0] [(0, (1, .tmp 8))], .some 9)), (none, (.box (.tmp 9), .some 10)), (none, (.mov (.tmp 10), .some 2))] []) .ret)
theorem b44 : Try.f44.body.bind (compC Try.prog) = some c44 := by kernel_rfl
theorem r44 : compR Try.prog Try.f44 = .some [.tmp 2] := by kernel_rfl
theorem n44 : (Try.f44.name == "runtime.NumGoroutine") = false := by kernel_rfl
def c45 : C := .seq
  (.reg [(none, (.mov (.const (.slice none 0 0)), .some 4))] []) (.seq
  (.reg [(none, (.mov (.const (.slice none 0 0)), .some 5))] []) (.seq (.seq
  (.reg [(none, (.mov (.tmp 0), .some 10)), (none, (.call (.func 99) [.tmp 10, .const (.int .i64 16)], .some 11)), (none, (.mov (.const (.int .i64 0)), .some 12))] []) (.block 0 (.loop (.seq
  (.reg [(none, (.bin .lss (.tmp 12) (.tmp 11), .some 13))] []) (.seq (.cond (.tmp 13) .skip (.exit 0)) (.seq (.block 1 (.seq
  (.reg [(none, (.mov (.tmp 12), .some 14)), (none, (.mov (.tmp 14), .some 6))] []) (.seq
  (.reg [(none, (.mov (.tmp 0), .some 15)), (none, (.call (.func 49) [.tmp 15], .some 16)), (none, (.mov (.tmp 16), .some 7))] []) (.seq
  (.reg [(none, (.mov (.tmp 0), .some 17)), (none, (.call (.func 100) [.tmp 17], .some 18)), (none, (.build [.int .u64 0, .slice none 0 0] [(0, (1, .tmp 18))], .some 19)), (none, (.new [.int .u64 0, .slice none 0 0], .some 8)), (none, (.store 2 (.tmp 8) (.tmp 19), none))] []) (.seq (.seq
  (.reg [(none, (.mov (.tmp 6), .some 20)), (none, (.bin .gtr (.tmp 20) (.const (.int .i64 0)), .some 21))] []) (.cond (.tmp 21) (.seq
  (.reg [(none, (.mov (.tmp 5), .some 22)), (none, (.mov (.tmp 6), .some 23)), (none, (.bin .sub (.tmp 23) (.const (.int .i64 1)), .some 24)), (none, (.iadr 2 (.tmp 22) (.tmp 24), .some 25)), (none, (.fadr 0 (.tmp 25), .some 26)), (none, (.load none (.tmp 26), .some 27)), (none, (.mov (.tmp 27), .some 9))] []) (.seq (.seq
  (.reg [(none, (.fadr 0 (.tmp 8), .some 28)), (none, (.load none (.tmp 28), .some 29)), (none, (.mov (.tmp 9), .some 30)), (none, (.un .xor (.tmp 30), .some 31)), (none, (.bin .geq (.tmp 29) (.tmp 31), .some 32))] []) (.cond (.tmp 32)
  (.reg [(none, (.mov (.tmp 0), .some 33)), (none, (.mov (.tmp 7), .some 34)), (none, (.call (.func 97) [.tmp 33, .const (.int .i64 13), .tmp 34], .some 35))] []) .skip))
  (.reg [(none, (.fadr 0 (.tmp 8), .some 36)), (none, (.load none (.tmp 36), .some 37)), (none, (.mov (.tmp 9), .some 38)), (none, (.bin .add (.tmp 38) (.const (.int .u64 1)), .some 39)), (none, (.bin .add (.tmp 37) (.tmp 39), .some 40)), (none, (.fadr 0 (.tmp 8), .some 41)), (none, (.store 1 (.tmp 41) (.tmp 40), none))] []))) .skip)) (.seq
  (.reg [(none, (.mov (.tmp 0), .some 42)), (none, (.mov (.tmp 1), .some 43)), (none, (.call (.func 122) [.tmp 42, .tmp 43, .const (.int .i64 4)], .some 44)), (none, (.fadr 1 (.tmp 8), .some 45)), (none, (.store 1 (.tmp 45) (.tmp 44), none))] []) (.seq (.seq
  (.reg [(none, (.mov (.tmp 0), .some 46)), (none, (.call (.func 57) [.tmp 46], .some 47)), (none, (.un .not (.tmp 47), .some 48))] []) (.cond (.tmp 48) (.seq
  (.reg [(none, (.mov (.const (.slice none 0 0)), .some 4))] []) .ret) .skip))
  (.reg [(none, (.mov (.tmp 5), .some 49)), (none, (.load (.some 2) (.tmp 8), .some 50)), (none, (.bsl 2 [.tmp 50], .some 51)), (none, (.app 2 32 (.tmp 49) (.tmp 51), .some 52)), (none, (.mov (.tmp 52), .some 5))] []))))))))
  (.reg [(none, (.bin .add (.tmp 12) (.const (.int .i64 1)), .some 53)), (none, (.mov (.tmp 53), .some 12))] []))))))) (.seq
  (.reg [(none, (.mov (.tmp 5), .some 54)), (none, (.mov (.tmp 54), .some 4))] []) .ret)))
theorem b45 : Try.f45.body.bind (compC Try.prog) = some c45 := by kernel_rfl
theorem r45 : compR Try.prog Try.f45 = .some [.tmp 4] := by kernel_rfl
theorem n45 : (Try.f45.name == "runtime.NumGoroutine") = false := by kernel_rfl
def c47 : C := .seq
  (.reg [(none, (.mov (.const (.bool .false)), .some 4))] []) (.seq (.seq
  (.reg [(none, (.mov (.tmp 0), .some 6)), (none, (.len .false (.tmp 6), .some 7)), (none, (.mov (.tmp 1), .some 8)), (none, (.len .false (.tmp 8), .some 9)), (none, (.bin .neq (.tmp 7) (.tmp 9), .some 10))] []) (.cond (.tmp 10) (.seq
  (.reg [(none, (.mov (.const (.bool .false)), .some 4))] []) .ret) .skip)) (.seq (.seq
  (.reg [(none, (.mov (.const (.int .i64 0)), .some 5))] []) (.block 0 (.loop (.seq (.seq
  (.reg [(none, (.mov (.tmp 5), .some 11)), (none, (.mov (.tmp 0), .some 12)), (none, (.len .false (.tmp 12), .some 13)), (none, (.bin .lss (.tmp 11) (.tmp 13), .some 14))] []) (.cond (.tmp 14) .skip (.exit 0))) (.seq (.block 1 (.seq
  (.reg [(none, (.mov (.tmp 0), .some 17)), (none, (.mov (.tmp 5), .some 18)), (none, (.iadr 2 (.tmp 17) (.tmp 18), .some 19)), (none, (.load (.some 2) (.tmp 19), .some 20)), (none, (.mov (.tmp 1), .some 21)), (none, (.mov (.tmp 5), .some 22)), (none, (.iadr 2 (.tmp 21) (.tmp 22), .some 23)), (none, (.load (.some 2) (.tmp 23), .some 24)), (none, (.call (.func 66) [.tmp 20, .tmp 24], .some 25)), (none, (.un .not (.tmp 25), .some 26))] [(3, 7)]) (.cond (.tmp 26) (.seq
  (.reg [(none, (.mov (.const (.bool .false)), .some 4))] []) .ret) .skip)))
  (.reg [(none, (.mov (.tmp 5), .some 15)), (none, (.bin .add (.tmp 15) (.const (.int .i64 1)), .some 16)), (none, (.mov (.tmp 16), .some 5))] [])))))) (.seq
  (.reg [(none, (.mov (.const (.bool .true)), .some 4))] []) .ret)))
theorem b47 : Try.f47.body.bind (compC Try.prog) = some c47 := by kernel_rfl
theorem r47 : compR Try.prog Try.f47 = .some [.tmp 4] := by kernel_rfl
theorem n47 : (Try.f47.name == "runtime.NumGoroutine") = false := by kernel_rfl
def c52 : C := .seq
  (.reg [(none, (.box (.tmp 0), .some 3)), (none, (.new [.slice none 0 0, .int .i64 0, .int .i64 0, .int .i64 0], .some 6)), (none, (.mov (.const (.slice none 0 0)), .some 7)), (none, (.mov (.const (.int .i64 0)), .some 8))] []) (.seq
  (.reg [(none, (.load (.some 4) (.tmp 3), .some 14)), (none, (.mov (.tmp 1), .some 15)), (none, (.call (.func 46) [.tmp 14, .tmp 15], .some 16)), (none, (.mov (.tmp 16), .some 13)), (none, (.ext (.tmp 13) 0, .some 17)), (none, (.ext (.tmp 13) 1, .some 18)), (none, (.new [.slice none 0 0, .int .i64 0, .int .i64 0, .int .i64 0], .some 9)), (none, (.store 4 (.tmp 9) (.tmp 17), none)), (none, (.mov (.tmp 18), .some 10))] []) (.seq
  (.reg [(none, (.load (.some 4) (.tmp 9), .some 20)), (none, (.mov (.tmp 2), .some 21)), (none, (.call (.func 106) [.tmp 20, .tmp 21], .some 22)), (none, (.mov (.tmp 22), .some 19)), (none, (.ext (.tmp 19) 0, .some 23)), (none, (.ext (.tmp 19) 1, .some 24)), (none, (.new [.slice none 0 0, .int .i64 0, .int .i64 0, .int .i64 0], .some 11)), (none, (.store 4 (.tmp 11) (.tmp 23), none)), (none, (.mov (.tmp 24), .some 12))] []) (.seq (.seq
  (.reg [(none, (.fadr 2 (.tmp 11), .some 25)), (none, (.fadr 0 (.tmp 25), .some 26)), (none, (.load none (.tmp 26), .some 27)), (none, (.bin .neq (.tmp 27) (.const (.int .i64 0)), .some 28))] []) (.cond (.tmp 28) (.seq
  (.reg [(none, (.load (.some 4) (.tmp 11), .some 29)), (none, (.store 4 (.tmp 6) (.tmp 29), none)), (none, (.mov (.const (.slice none 0 0)), .some 7)), (none, (.mov (.const (.int .i64 0)), .some 8))] []) .ret) .skip)) (.seq
  (.reg [(none, (.load (.some 4) (.tmp 11), .some 30)), (none, (.mov (.tmp 10), .some 31)), (none, (.mov (.tmp 12), .some 32)), (none, (.store 4 (.tmp 6) (.tmp 30), none)), (none, (.mov (.tmp 31), .some 7)), (none, (.mov (.tmp 32), .some 8))] []) .ret))))
theorem b52 : Try.f52.body.bind (compC Try.prog) = some c52 := by kernel_rfl
theorem r52 : compR Try.prog Try.f52 = .some [.cell 6 (.some 4), .tmp 7, .tmp 8] := by kernel_rfl
theorem n52 : (Try.f52.name == "runtime.NumGoroutine") = false := by kernel_rfl
def c54 : C := .seq (.seq
  (.reg [(none, (.mov (.tmp 1), .some 8)), (none, (.mov (.tmp 2), .some 9)), (none, (.call (.func 41) [.tmp 8, .tmp 9], .some 10)), (none, (.un .not (.tmp 10), .some 11))] []) (.cond (.tmp 11) (.seq
  (.reg [(none, (.mov (.tmp 0), .some 12)), (none, (.call (.func 126) [.tmp 12, .const (.int .i64 3)], .some 13))] []) .ret) .skip)) (.seq
  (.reg [(none, (.mov (.tmp 0), .some 14)), (none, (.mov (.tmp 2), .some 15)), (none, (.len .false (.tmp 15), .some 16)), (none, (.cvt .u64 (.tmp 16), .some 17)), (none, (.call (.func 127) [.tmp 14, .tmp 17], .some 18))] []) (.seq
  (.reg [(none, (.mov (.tmp 2), .some 19)), (none, (.call (.func 128) [.tmp 19], .some 20)), (none, (.len .false (.tmp 20), .some 21)), (none, (.mov (.const (.int .i64 0)), .some 22))] []) (.block 0 (.loop (.seq
  (.reg [(none, (.bin .lss (.tmp 22) (.tmp 21), .some 23))] []) (.seq (.cond (.tmp 23) .skip (.exit 0)) (.seq (.block 1 (.seq
  (.reg [(none, (.mov (.tmp 22), .some 24)), (none, (.iadr 1 (.tmp 20) (.tmp 22), .some 25)), (none, (.load none (.tmp 25), .some 26)), (none, (.mov (.tmp 24), .some 6)), (none, (.mov (.tmp 26), .some 7))] []) (.seq
  (.reg [(none, (.mov (.tmp 0), .some 27)), (none, (.mov (.tmp 7), .some 28)), (none, (.call (.func 127) [.tmp 27, .tmp 28], .some 29))] [])
  (.reg [(none, (.mov (.tmp 0), .some 30)), (none, (.mov (.tmp 1), .some 31)), (none, (.mov (.tmp 2), .some 32)), (none, (.mov (.tmp 6), .some 33)), (none, (.iadr 2 (.tmp 32) (.tmp 33), .some 34)), (none, (.fadr 1 (.tmp 34), .some 35)), (none, (.load none (.tmp 35), .some 36)), (none, (.call (.func 129) [.tmp 30, .tmp 31, .tmp 36], .some 37))] []))))
  (.reg [(none, (.bin .add (.tmp 22) (.const (.int .i64 1)), .some 38)), (none, (.mov (.tmp 38), .some 22))] []))))))))
theorem b54 : Try.f54.body.bind (compC Try.prog) = some c54 := by kernel_rfl
theorem r54 : compR Try.prog Try.f54 = .some [] := by kernel_rfl
theorem n54 : (Try.f54.name == "runtime.NumGoroutine") = false := by kernel_rfl
def c66 : C := .seq
  (.reg [(none, (.box (.tmp 0), .some 2)), (none, (.box (.tmp 1), .some 3)), (none, (.mov (.const (.bool .false)), .some 4))] []) (.seq
  (.reg [(none, (.fadr 0 (.tmp 2), .some 5)), (none, (.load none (.tmp 5), .some 6)), (none, (.fadr 0 (.tmp 3), .some 7)), (none, (.load none (.tmp 7), .some 8)), (none, (.bin .eql (.tmp 6) (.tmp 8), .some 9)), (none, (.mov (.tmp 9), .some 10)), (.some (10, .true), (.fadr 1 (.tmp 2), .some 11)), (.some (10, .true), (.load none (.tmp 11), .some 12)), (.some (10, .true), (.fadr 1 (.tmp 3), .some 13)), (.some (10, .true), (.load none (.tmp 13), .some 14)), (.some (10, .true), (.call (.func 112) [.tmp 12, .tmp 14], .some 15)), (none, (.pick (.tmp 10) (.tmp 15) (.const (.bool .false)), .some 16)), (none, (.mov (.tmp 16), .some 4))] []) .ret)
theorem b66 : Try.f66.body.bind (compC Try.prog) = some c66 := by kernel_rfl
theorem r66 : compR Try.prog Try.f66 = .some [.tmp 4] := by kernel_rfl
theorem n66 : (Try.f66.name == "runtime.NumGoroutine") = false := by kernel_rfl
def c84 : C := .seq
  (.reg [(none, (.box (.tmp 1), .some 3)), (none, (.mov (.const (.slice none 0 0)), .some 4))] []) (.seq
  (.reg [(none, (.mov (.tmp 0), .some 5)), (none, (.fadr 0 (.tmp 3), .some 6)), (none, (.load none (.tmp 6), .some 7)), (none, (.call (.func 50) [.tmp 5, .tmp 7], .some 8)), (none, (.fadr 1 (.tmp 3), .some 9)), (none, (.load none (.tmp 9), .some 10)), (none, (.len .false (.tmp 10), .some 11)), (none, (.cvt .u64 (.tmp 11), .some 12)), (none, (.call (.func 110) [.tmp 12], .some 13)), (none, (.app 1 1 (.tmp 8) (.tmp 13), .some 14)), (none, (.mov (.tmp 14), .some 4))] [(2, 5), (3, 5)]) .ret)
theorem b84 : Try.f84.body.bind (compC Try.prog) = some c84 := by kernel_rfl
theorem r84 : compR Try.prog Try.f84 = .some [.tmp 4] := by kernel_rfl
theorem n84 : (Try.f84.name == "runtime.NumGoroutine") = false := by kernel_rfl
def c96 : C := .seq
  (.reg [(none, (.mov (.const (.int .u8 0)), .some 2))] []) (.seq (.seq
  (.reg [(none, (.mov (.tmp 0), .some 3)), (none, (.call (.func 78) [.tmp 3, .const (.int .i64 1)], .some 4)), (none, (.un .not (.tmp 4), .some 5))] []) (.cond (.tmp 5) (.seq
  (.reg [(none, (.mov (.const (.int .u8 0)), .some 2))] []) .ret) .skip)) (.seq
  (.reg [(none, (.mov (.tmp 0), .some 6)), (none, (.nilc (.tmp 6), .some 7)), (none, (.fadr 0 (.tmp 7), .some 8)), (none, (.load none (.tmp 8), .some 9)), (none, (.mov (.tmp 0), .some 10)), (none, (.nilc (.tmp 10), .some 11)), (none, (.fadr 1 (.tmp 11), .some 12)), (none, (.load none (.tmp 12), .some 13)), (none, (.bin .sub (.tmp 13) (.const (.int .i64 1)), .some 14)), (none, (.iadr 1 (.tmp 9) (.tmp 14), .some 15)), (none, (.load none (.tmp 15), .some 16)), (none, (.mov (.tmp 16), .some 2))] [(3, 7)]) .ret))
theorem b96 : Try.f96.body.bind (compC Try.prog) = some c96 := by kernel_rfl
theorem r96 : compR Try.prog Try.f96 = .some [.tmp 2] := by kernel_rfl
theorem n96 : (Try.f96.name == "runtime.NumGoroutine") = false := by kernel_rfl
def c99 : C := .seq
  (.reg [(none, (.mov (.const (.int .i64 0)), .some 4))] []) (.seq (.seq
  (.reg [(none, (.mov (.tmp 1), .some 6)), (none, (.bin .geq (.tmp 6) (.const (.int .i64 0)), .some 7))] []) (.cond (.tmp 7) (.seq
  (.reg [(none, (.mov (.tmp 0), .some 8)), (none, (.mov (.tmp 1), .some 9)), (none, (.cvt .u64 (.tmp 9), .some 10)), (none, (.call (.func 165) [.tmp 8, .tmp 10], .some 11)), (none, (.cvt .i64 (.tmp 11), .some 12)), (none, (.mov (.tmp 12), .some 4))] []) .ret) .skip)) (.seq
  (.reg [(none, (.mov (.tmp 0), .some 13)), (none, (.call (.func 49) [.tmp 13], .some 14)), (none, (.mov (.tmp 14), .some 5))] []) (.seq
  (.reg [(none, (.mov (.tmp 0), .some 15)), (none, (.call (.func 100) [.tmp 15], .some 16))] []) (.seq
  (.reg [(none, (.mov (.tmp 0), .some 17)), (none, (.mov (.tmp 5), .some 18)), (none, (.call (.func 97) [.tmp 17, .const (.int .i64 2), .tmp 18], .some 19))] []) (.seq
  (.reg [(none, (.mov (.const (.int .i64 0)), .some 4))] []) .ret)))))
theorem b99 : Try.f99.body.bind (compC Try.prog) = some c99 := by kernel_rfl
theorem r99 : compR Try.prog Try.f99 = .some [.tmp 4] := by kernel_rfl
theorem n99 : (Try.f99.name == "runtime.NumGoroutine") = false := by kernel_rfl
def c102 : C := .seq
  (.reg [(none, (.box (.tmp 0), .some 1)), (none, (.mov (.const (.bool .false)), .some 2))] []) (.seq
  (.reg [(none, (.fadr 0 (.tmp 1), .some 3)), (none, (.load none (.tmp 3), .some 4)), (none, (.bin .eql (.tmp 4) (.const (.int .i64 0)), .some 5)), (none, (.mov (.tmp 5), .some 2))] []) .ret)
theorem b102 : Try.f102.body.bind (compC Try.prog) = some c102 := by kernel_rfl
theorem r102 : compR Try.prog Try.f102 = .some [.tmp 2] := by kernel_rfl
theorem n102 : (Try.f102.name == "runtime.NumGoroutine") = false := by kernel_rfl
def c107 : C := .seq
  (.reg [(none, (.box (.tmp 0), .some 1)), (none, (.new [.slice none 0 0, .int .i64 0, .int .i64 0, .int .i64 0], .some 2)), (none, (.mov (.const (.int .u64 0)), .some 3))] []) (.seq (.seq
  (.reg [(none, (.fadr 2 (.tmp 1), .some 7)), (none, (.fadr 0 (.tmp 7), .some 8)), (none, (.load none (.tmp 8), .some 9)), (none, (.bin .neq (.tmp 9) (.const (.int .i64 0)), .some 10))] []) (.cond (.tmp 10) (.seq
  (.reg [(none, (.load (.some 4) (.tmp 1), .some 11)), (none, (.store 4 (.tmp 2) (.tmp 11), none)), (none, (.mov (.const (.int .u64 0)), .some 3))] []) .ret) .skip)) (.seq
  (.reg [(none, (.fadr 0 (.tmp 1), .some 13)), (none, (.load none (.tmp 13), .some 14)), (none, (.fadr 1 (.tmp 1), .some 15)), (none, (.load none (.tmp 15), .some 16)), (none, (.slice 1 (.tmp 14) (.some (.tmp 16)) none none, .some 17)), (none, (.call (.func 167) [.tmp 17], .some 18)), (none, (.mov (.tmp 18), .some 12)), (none, (.ext (.tmp 12) 0, .some 19)), (none, (.ext (.tmp 12) 1, .some 20)), (none, (.ext (.tmp 12) 2, .some 21)), (none, (.new [.int .i64 0, .int .i64 0], .some 6)), (none, (.mov (.tmp 19), .some 4)), (none, (.mov (.tmp 20), .some 5)), (none, (.store 2 (.tmp 6) (.tmp 21), none))] []) (.seq (.seq
  (.reg [(none, (.fadr 0 (.tmp 6), .some 22)), (none, (.load none (.tmp 22), .some 23)), (none, (.bin .eql (.tmp 23) (.const (.int .i64 0)), .some 24))] []) (.cond (.tmp 24) (.seq
  (.reg [(none, (.fadr 1 (.tmp 1), .some 25)), (none, (.load none (.tmp 25), .some 26)), (none, (.mov (.tmp 5), .some 27)), (none, (.bin .add (.tmp 26) (.tmp 27), .some 28)), (none, (.fadr 1 (.tmp 1), .some 29)), (none, (.store 1 (.tmp 29) (.tmp 28), none))] []) (.seq
  (.reg [(none, (.load (.some 4) (.tmp 1), .some 30)), (none, (.mov (.tmp 4), .some 31)), (none, (.store 4 (.tmp 2) (.tmp 30), none)), (none, (.mov (.tmp 31), .some 3))] []) .ret)) .skip)) (.seq (.seq
  (.reg [(none, (.fadr 0 (.tmp 6), .some 32)), (none, (.load none (.tmp 32), .some 33)), (none, (.bin .eql (.tmp 33) (.const (.int .i64 1)), .some 34))] []) (.cond (.tmp 34)
  (.reg [(none, (.fadr 0 (.tmp 1), .some 35)), (none, (.load none (.tmp 35), .some 36)), (none, (.len .false (.tmp 36), .some 37)), (none, (.fadr 1 (.tmp 1), .some 38)), (none, (.store 1 (.tmp 38) (.tmp 37), none))] [])
  (.reg [(none, (.fadr 1 (.tmp 1), .some 39)), (none, (.load none (.tmp 39), .some 40)), (none, (.fadr 1 (.tmp 6), .some 41)), (none, (.load none (.tmp 41), .some 42)), (none, (.bin .add (.tmp 40) (.tmp 42), .some 43)), (none, (.bin .add (.tmp 43) (.const (.int .i64 1)), .some 44)), (none, (.fadr 1 (.tmp 1), .some 45)), (none, (.store 1 (.tmp 45) (.tmp 44), none))] []))) (.seq
  (.reg [(none, (.fadr 0 (.tmp 6), .some 46)), (none, (.load none (.tmp 46), .some 47)), (none, (.fadr 1 (.tmp 1), .some 48)), (none, (.load none (.tmp 48), .some 49)), (none, (.call (.func 156) [.tmp 47, .tmp 49], .some 50)), (none, (.fadr 2 (.tmp 1), .some 51)), (none, (.store 2 (.tmp 51) (.tmp 50), none))] []) (.seq (.seq
  (.reg [(none, (.fadr 0 (.tmp 6), .some 52)), (none, (.load none (.tmp 52), .some 53)), (none, (.bin .neq (.tmp 53) (.const (.int .i64 1)), .some 54))] []) (.cond (.tmp 54)
  (.reg [(none, (.fadr 1 (.tmp 1), .some 55)), (none, (.load none (.tmp 55), .some 56)), (none, (.bin .sub (.tmp 56) (.const (.int .i64 1)), .some 57)), (none, (.fadr 2 (.tmp 1), .some 58)), (none, (.fadr 1 (.tmp 58), .some 59)), (none, (.store 1 (.tmp 59) (.tmp 57), none))] []) .skip)) (.seq
  (.reg [(none, (.load (.some 4) (.tmp 1), .some 60)), (none, (.store 4 (.tmp 2) (.tmp 60), none)), (none, (.mov (.const (.int .u64 0)), .some 3))] []) .ret)))))))
theorem b107 : Try.f107.body.bind (compC Try.prog) = some c107 := by kernel_rfl
theorem r107 : compR Try.prog Try.f107 = .some [.cell 2 (.some 4), .tmp 3] := by kernel_rfl
theorem n107 : (Try.f107.name == "runtime.NumGoroutine") = false := by kernel_rfl
def c117 : C := .seq
  (.reg [(none, (.mov (.const (.int .i64 0)), .some 4))] []) (.seq (.seq
  (.reg [(none, (.mov (.tmp 0), .some 7)), (none, (.len .false (.tmp 7), .some 8)), (none, (.mov (.const (.int .i64 0)), .some 9))] []) (.block 0 (.loop (.seq
  (.reg [(none, (.bin .lss (.tmp 9) (.tmp 8), .some 10))] []) (.seq (.cond (.tmp 10) .skip (.exit 0)) (.seq (.block 1 (.seq
  (.reg [(none, (.mov (.tmp 9), .some 11)), (none, (.iadr 2 (.tmp 7) (.tmp 9), .some 12)), (none, (.load (.some 2) (.tmp 12), .some 13)), (none, (.new [.int .u64 0, .slice none 0 0], .some 6)), (none, (.mov (.tmp 11), .some 5)), (none, (.store 2 (.tmp 6) (.tmp 13), none))] []) (.seq
  (.reg [(none, (.mov (.tmp 1), .some 14)), (none, (.load (.some 2) (.tmp 6), .some 15)), (none, (.call (.tmp 14) [.tmp 15], .some 16))] []) (.cond (.tmp 16) (.seq
  (.reg [(none, (.mov (.tmp 5), .some 17)), (none, (.mov (.tmp 17), .some 4))] []) .ret) .skip))))
  (.reg [(none, (.bin .add (.tmp 9) (.const (.int .i64 1)), .some 18)), (none, (.mov (.tmp 18), .some 9))] []))))))) (.seq
  (.reg [(none, (.mov (.tmp 0), .some 19)), (none, (.len .false (.tmp 19), .some 20)), (none, (.mov (.tmp 20), .some 4))] []) .ret))
theorem b117 : Try.f117.body.bind (compC Try.prog) = some c117 := by kernel_rfl
theorem r117 : compR Try.prog Try.f117 = .some [.tmp 4] := by kernel_rfl
theorem n117 : (Try.f117.name == "runtime.NumGoroutine") = false := by kernel_rfl
def c122 : C := .seq
  (.reg [(none, (.mov (.const (.slice none 0 0)), .some 6))] []) (.seq
  (.reg [(none, (.mov (.const (.slice none 0 0)), .some 7))] []) (.seq (.seq
  (.reg [(none, (.mov (.tmp 0), .some 10)), (none, (.mov (.tmp 2), .some 11)), (none, (.call (.func 99) [.tmp 10, .tmp 11], .some 12)), (none, (.mov (.const (.int .i64 0)), .some 13))] []) (.block 0 (.loop (.seq
  (.reg [(none, (.bin .lss (.tmp 13) (.tmp 12), .some 14))] []) (.seq (.cond (.tmp 14) .skip (.exit 0)) (.seq (.block 1 (.seq
  (.reg [(none, (.mov (.tmp 0), .some 15)), (none, (.call (.func 49) [.tmp 15], .some 16)), (none, (.mov (.tmp 16), .some 8))] []) (.seq
  (.reg [(none, (.mov (.tmp 0), .some 17)), (none, (.call (.func 100) [.tmp 17], .some 18)), (none, (.mov (.tmp 18), .some 9))] []) (.seq (.seq
  (.reg [(none, (.mov (.tmp 9), .some 19)), (none, (.mov (.tmp 1), .some 20)), (none, (.bin .geq (.tmp 19) (.tmp 20), .some 21))] []) (.cond (.tmp 21)
  (.reg [(none, (.mov (.tmp 0), .some 22)), (none, (.mov (.tmp 8), .some 23)), (none, (.call (.func 97) [.tmp 22, .const (.int .i64 13), .tmp 23], .some 24))] []) .skip)) (.seq (.seq
  (.reg [(none, (.mov (.tmp 0), .some 25)), (none, (.call (.func 57) [.tmp 25], .some 26)), (none, (.un .not (.tmp 26), .some 27))] []) (.cond (.tmp 27) (.seq
  (.reg [(none, (.mov (.const (.slice none 0 0)), .some 6))] []) .ret) .skip)) (.seq
  (.reg [(none, (.mov (.tmp 1), .some 28)), (none, (.mov (.tmp 9), .some 29)), (none, (.bin .add (.tmp 29) (.const (.int .u64 1)), .some 30)), (none, (.bin .sub (.tmp 28) (.tmp 30), .some 31)), (none, (.mov (.tmp 31), .some 1))] [])
  (.reg [(none, (.mov (.tmp 7), .some 32)), (none, (.mov (.tmp 1), .some 33)), (none, (.bsl 1 [.tmp 33], .some 34)), (none, (.app 1 8 (.tmp 32) (.tmp 34), .some 35)), (none, (.mov (.tmp 35), .some 7))] [])))))))
  (.reg [(none, (.bin .add (.tmp 13) (.const (.int .i64 1)), .some 36)), (none, (.mov (.tmp 36), .some 13))] []))))))) (.seq
  (.reg [(none, (.mov (.tmp 7), .some 37)), (none, (.mov (.tmp 37), .some 6))] []) .ret)))
theorem b122 : Try.f122.body.bind (compC Try.prog) = some c122 := by kernel_rfl
theorem r122 : compR Try.prog Try.f122 = .some [.tmp 6] := by kernel_rfl
theorem n122 : (Try.f122.name == "runtime.NumGoroutine") = false := by kernel_rfl
def c174 : C := .seq
  (.reg [(none, (.mov (.const (.int .i64 0)), .some 2))] []) (.seq (.seq
  (.reg [(none, (.mov (.tmp 0), .some 3)), (none, (.eqp .false (.tmp 3) (.const (.pointer none)), .some 4))] []) (.cond (.tmp 4) (.seq
  (.reg [(none, (.mov (.const (.int .i64 0)), .some 2))] []) .ret) .skip)) (.seq
  (.reg [(none, (.mov (.tmp 0), .some 5)), (none, (.nilc (.tmp 5), .some 6)), (none, (.fadr 0 (.tmp 6), .some 7)), (none, (.load none (.tmp 7), .some 8)), (none, (.mov (.tmp 0), .some 9)), (none, (.nilc (.tmp 9), .some 10)), (none, (.fadr 1 (.tmp 10), .some 11)), (none, (.load none (.tmp 11), .some 12)), (none, (.len .false (.tmp 12), .some 13)), (none, (.bin .sub (.tmp 8) (.tmp 13), .some 14)), (none, (.mov (.tmp 14), .some 2))] [(3, 7)]) .ret))
theorem b174 : Try.f174.body.bind (compC Try.prog) = some c174 := by kernel_rfl
theorem r174 : compR Try.prog Try.f174 = .some [.tmp 2] := by kernel_rfl
theorem n174 : (Try.f174.name == "runtime.NumGoroutine") = false := by kernel_rfl
end Go.Proofs.Ytkhnfleejgfhgaa
