/-
  The codes of the seat's functions over abstract values, each shown to be its function's own (by program: wip/tools/codes.py).
-/
import Derived.Test.YtpjkmidjjodplaaA2
import Derived.Test.YtpjkmidjjodplaaProg
import Derived.KernelRfl
namespace Go.Proofs.Ytpjkmidjjodplaa
def c12 : C := .seq
  (.reg [(none, (.mov (.const (.bool .false)), .some 6))] []) (.seq (.seq
  (.reg [(none, (.mov (.tmp 0), .some 17)), (none, (.len .false (.tmp 17), .some 18)), (none, (.bin .gtr (.tmp 18) (.const (.int .i64 500)), .some 19)), (none, (.mov (.tmp 19), .some 20)), (.some (20, .false), (.mov (.tmp 1), .some 21)), (.some (20, .false), (.len .false (.tmp 21), .some 22)), (.some (20, .false), (.bin .gtr (.tmp 22) (.const (.int .i64 500)), .some 23)), (none, (.pick (.tmp 20) (.const (.bool .true)) (.tmp 23), .some 24))] []) (.cond (.tmp 24) (.seq
  (.reg [(none, (.call (.func 27) [], .some 25)), (none, (.mov (.tmp 25), .some 6))] []) .ret) .skip)) (.seq
  (.reg [(none, (.mov (.tmp 0), .some 27)), (none, (.call (.func 28) [.tmp 27], .some 28)), (none, (.mov (.tmp 28), .some 26)), (none, (.ext (.tmp 26) 0, .some 29)), (none, (.ext (.tmp 26) 1, .some 30)), (none, (.mov (.tmp 29), .some 7)), (none, (.mov (.tmp 30), .some 8))] []) (.seq
  (.reg [(none, (.bsl 1 [], .some 32)), (none, (.mov (.tmp 7), .some 33)), (none, (.app 1 1 (.tmp 32) (.tmp 33), .some 34)), (none, (.mov (.tmp 1), .some 35)), (none, (.app 1 1 (.tmp 34) (.tmp 35), .some 36)), (none, (.call (.func 61) [.tmp 36, .const (.int .i64 500)], .some 37)), (none, (.mov (.tmp 37), .some 31)), (none, (.ext (.tmp 31) 0, .some 38)), (none, (.ext (.tmp 31) 1, .some 39)), (none, (.ext (.tmp 31) 2, .some 40)), (none, (.new [.int .i64 0, .int .i64 0], .some 11)), (none, (.mov (.tmp 38), .some 9)), (none, (.mov (.tmp 39), .some 10)), (none, (.store 2 (.tmp 11) (.tmp 40), none))] []) (.seq (.seq
  (.reg [(none, (.load (.some 2) (.tmp 11), .some 41)), (none, (.build [.int .i64 0, .int .i64 0] [], .some 42)), (none, (.eqa .true 2 (.tmp 41) (.tmp 42), .some 43)), (none, (.mov (.tmp 43), .some 44)), (.some (44, .false), (.mov (.tmp 10), .some 45)), (.some (44, .false), (.mov (.tmp 7), .some 46)), (.some (44, .false), (.len .false (.tmp 46), .some 47)), (.some (44, .false), (.bin .neq (.tmp 45) (.tmp 47), .some 48)), (none, (.pick (.tmp 44) (.const (.bool .true)) (.tmp 48), .some 49)), (none, (.mov (.tmp 49), .some 50)), (.some (50, .false), (.mov (.tmp 9), .some 51)), (.some (50, .false), (.mov (.tmp 0), .some 52)), (.some (50, .false), (.call (.func 21) [.tmp 51, .tmp 52], .some 53)), (.some (50, .false), (.un .not (.tmp 53), .some 54)), (none, (.pick (.tmp 50) (.const (.bool .true)) (.tmp 54), .some 55))] []) (.cond (.tmp 55) (.seq
  (.reg [(none, (.mov (.const (.bool .false)), .some 6))] []) .ret) .skip)) (.seq (.seq
  (.reg [(none, (.mov (.tmp 7), .some 56)), (none, (.len .false (.tmp 56), .some 57)), (none, (.bin .lss (.tmp 57) (.const (.int .i64 5)), .some 58))] []) (.cond (.tmp 58) (.seq
  (.reg [(none, (.mov (.const (.bool .false)), .some 6))] []) .ret) .skip)) (.seq
  (.reg [(none, (.mov (.tmp 2), .some 59)), (none, (.mx .true (.tmp 59) (.const (.int .i64 0)), .some 60)), (none, (.mov (.tmp 7), .some 61)), (none, (.len .false (.tmp 61), .some 62)), (none, (.bin .sub (.tmp 62) (.const (.int .i64 1)), .some 63)), (none, (.mx .false (.tmp 60) (.tmp 63), .some 64)), (none, (.mov (.tmp 64), .some 2))] []) (.seq
  (.reg [(none, (.mov (.tmp 7), .some 66)), (none, (.mov (.tmp 2), .some 67)), (none, (.slice 1 (.tmp 66) none (.some (.tmp 67)) none, .some 68)), (none, (.call (.func 61) [.tmp 68, .const (.int .i64 500)], .some 69)), (none, (.mov (.tmp 69), .some 65)), (none, (.ext (.tmp 65) 0, .some 70)), (none, (.ext (.tmp 65) 1, .some 71)), (none, (.ext (.tmp 65) 2, .some 72)), (none, (.mov (.tmp 70), .some 9)), (none, (.mov (.tmp 71), .some 10)), (none, (.store 2 (.tmp 11) (.tmp 72), none))] []) (.seq (.seq
  (.reg [(none, (.mov (.tmp 9), .some 73)), (none, (.len .false (.tmp 73), .some 74)), (none, (.bin .neq (.tmp 74) (.const (.int .i64 0)), .some 75)), (none, (.mov (.tmp 75), .some 76)), (.some (76, .false), (.mov (.tmp 10), .some 77)), (.some (76, .false), (.bin .neq (.tmp 77) (.const (.int .i64 0)), .some 78)), (none, (.pick (.tmp 76) (.const (.bool .true)) (.tmp 78), .some 79)), (none, (.mov (.tmp 79), .some 80)), (.some (80, .false), (.load (.some 2) (.tmp 11), .some 81)), (.some (80, .false), (.mov (.tmp 2), .some 82)), (.some (80, .false), (.build [.int .i64 0, .int .i64 0] [(0, (1, .const (.int .i64 1))), (1, (1, .tmp 82))], .some 83)), (.some (80, .false), (.eqa .true 2 (.tmp 81) (.tmp 83), .some 84)), (none, (.pick (.tmp 80) (.const (.bool .true)) (.tmp 84), .some 85))] []) (.cond (.tmp 85) (.seq
  (.reg [(none, (.mov (.const (.bool .false)), .some 6))] []) .ret) .skip)) (.seq
  (.reg [(none, (.mov (.tmp 1), .some 87)), (none, (.call (.func 61) [.tmp 87, .const (.int .i64 500)], .some 88)), (none, (.mov (.tmp 88), .some 86)), (none, (.ext (.tmp 86) 0, .some 89)), (none, (.ext (.tmp 86) 1, .some 90)), (none, (.ext (.tmp 86) 2, .some 91)), (none, (.new [.int .i64 0, .int .i64 0], .some 14)), (none, (.mov (.tmp 89), .some 12)), (none, (.mov (.tmp 90), .some 13)), (none, (.store 2 (.tmp 14) (.tmp 91), none))] []) (.seq (.seq
  (.reg [(none, (.fadr 0 (.tmp 14), .some 92)), (none, (.load none (.tmp 92), .some 93)), (none, (.bin .neq (.tmp 93) (.const (.int .i64 0)), .some 94))] []) (.cond (.tmp 94) (.seq
  (.reg [(none, (.call (.func 27) [], .some 95)), (none, (.mov (.tmp 95), .some 6))] []) .ret) .skip)) (.seq
  (.reg [(none, (.mov (.tmp 12), .some 97)), (none, (.call (.func 28) [.tmp 97], .some 98)), (none, (.mov (.tmp 98), .some 96)), (none, (.ext (.tmp 96) 0, .some 99)), (none, (.ext (.tmp 96) 1, .some 100)), (none, (.mov (.tmp 99), .some 15)), (none, (.mov (.tmp 100), .some 16))] []) (.seq
  (.reg [(none, (.mov (.tmp 16), .some 101)), (none, (.bin .eql (.tmp 101) (.const (.int .i64 0)), .some 102)), (none, (.mov (.tmp 102), .some 103)), (.some (103, .true), (.mov (.tmp 15), .some 104)), (.some (103, .true), (.mov (.tmp 1), .some 105)), (.some (103, .true), (.mov (.tmp 13), .some 106)), (.some (103, .true), (.slice 1 (.tmp 105) none (.some (.tmp 106)) none, .some 107)), (.some (103, .true), (.call (.func 21) [.tmp 104, .tmp 107], .some 108)), (none, (.pick (.tmp 103) (.tmp 108) (.const (.bool .false)), .some 109)), (none, (.mov (.tmp 109), .some 110)), (.some (110, .true), (.call (.func 27) [], .some 111)), (none, (.pick (.tmp 110) (.tmp 111) (.const (.bool .false)), .some 112)), (none, (.mov (.tmp 112), .some 6))] []) .ret))))))))))))
theorem b12 : Try.f12.body.bind (compC Try.prog) = some c12 := by kernel_rfl
theorem r12 : compR Try.prog Try.f12 = .some [.tmp 6] := by kernel_rfl
theorem n12 : (Try.f12.name == "runtime.NumGoroutine") = false := by kernel_rfl
def c27 : C := .seq
  (.reg [(none, (.mov (.const (.bool .false)), .some 0))] []) (.seq
  (.reg [(none, (.call (.func 28) [.const (.slice none 0 0)], .some 4)), (none, (.mov (.tmp 4), .some 3)), (none, (.ext (.tmp 3) 0, .some 5)), (none, (.ext (.tmp 3) 1, .some 6)), (none, (.mov (.tmp 5), .some 1)), (none, (.mov (.tmp 6), .some 2))] []) (.seq
  (.reg [(none, (.mov (.tmp 2), .some 7)), (none, (.bin .eql (.tmp 7) (.const (.int .i64 0)), .some 8)), (none, (.mov (.tmp 8), .some 9)), (.some (9, .true), (.mov (.tmp 1), .some 10)), (.some (9, .true), (.bsl 1 [.const (.int .u8 0), .const (.int .u8 0), .const (.int .u8 0), .const (.int .u8 0), .const (.int .u8 0)], .some 11)), (.some (9, .true), (.call (.func 21) [.tmp 10, .tmp 11], .some 12)), (none, (.pick (.tmp 9) (.tmp 12) (.const (.bool .false)), .some 13)), (none, (.mov (.tmp 13), .some 0))] []) .ret))
theorem b27 : Try.f27.body.bind (compC Try.prog) = some c27 := by kernel_rfl
theorem r27 : compR Try.prog Try.f27 = .some [.tmp 0] := by kernel_rfl
theorem n27 : (Try.f27.name == "runtime.NumGoroutine") = false := by kernel_rfl
def c35 : C := .seq
  (.reg [(none, (.mov (.const (.int .i64 0)), .some 2))] []) (.seq
  (.reg [(none, (.mov (.tmp 0), .some 3)), (none, (.call (.func 85) [.tmp 3], .some 4)), (none, (.bin .add (.tmp 4) (.const (.int .i64 4)), .some 5)), (none, (.mov (.tmp 5), .some 2))] []) .ret)
theorem b35 : Try.f35.body.bind (compC Try.prog) = some c35 := by kernel_rfl
theorem r35 : compR Try.prog Try.f35 = .some [.tmp 2] := by kernel_rfl
theorem n35 : (Try.f35.name == "runtime.NumGoroutine") = false := by kernel_rfl
def c61 : C := .seq
  (.reg [(none, (.mov (.const (.slice none 0 0)), .some 4)), (none, (.mov (.const (.int .i64 0)), .some 5)), (none, (.new [.int .i64 0, .int .i64 0], .some 6))] []) (.seq
  (.reg [(none, (.mov (.tmp 0), .some 10)), (none, (.call (.func 53) [.tmp 10], .some 11)), (none, (.mov (.tmp 11), .some 7))] []) (.seq
  (.reg [(none, (.mov (.tmp 7), .some 12)), (none, (.mov (.tmp 1), .some 13)), (none, (.call (.func 63) [.tmp 12, .tmp 13], .some 14)), (none, (.mov (.tmp 14), .some 8))] []) (.seq (.seq
  (.reg [(none, (.mov (.tmp 7), .some 15)), (none, (.call (.func 56) [.tmp 15], .some 16)), (none, (.new [.int .i64 0, .int .i64 0], .some 9)), (none, (.store 2 (.tmp 9) (.tmp 16), none))] []) (.seq
  (.reg [(none, (.load (.some 2) (.tmp 9), .some 17)), (none, (.call (.func 94) [.tmp 17], .some 18)), (none, (.un .not (.tmp 18), .some 19))] []) (.cond (.tmp 19) (.seq
  (.reg [(none, (.load (.some 2) (.tmp 9), .some 20)), (none, (.mov (.const (.slice none 0 0)), .some 4)), (none, (.mov (.const (.int .i64 0)), .some 5)), (none, (.store 2 (.tmp 6) (.tmp 20), none))] []) .ret) .skip))) (.seq
  (.reg [(none, (.mov (.tmp 8), .some 21)), (none, (.mov (.tmp 7), .some 22)), (none, (.call (.func 57) [.tmp 22], .some 23)), (none, (.build [.int .i64 0, .int .i64 0] [], .some 24)), (none, (.mov (.tmp 21), .some 4)), (none, (.mov (.tmp 23), .some 5)), (none, (.store 2 (.tmp 6) (.tmp 24), none))] []) .ret))))
theorem b61 : Try.f61.body.bind (compC Try.prog) = some c61 := by kernel_rfl
theorem r61 : compR Try.prog Try.f61 = .some [.tmp 4, .tmp 5, .cell 6 (.some 2)] := by kernel_rfl
theorem n61 : (Try.f61.name == "runtime.NumGoroutine") = false := by kernel_rfl
def c63 : C := .seq
  (.reg [(none, (.mov (.const (.slice none 0 0)), .some 4))] []) (.seq
  (.reg [(none, (.mov (.tmp 0), .some 8)), (none, (.mov (.tmp 1), .some 9)), (none, (.call (.func 101) [.tmp 9], .some 10)), (none, (.call (.func 100) [.tmp 8, .tmp 10], .some 11)), (none, (.mov (.tmp 11), .some 5))] []) (.seq
  (.reg [(none, (.mov (.tmp 0), .some 12)), (none, (.call (.func 57) [.tmp 12], .some 13)), (none, (.mov (.tmp 13), .some 6))] []) (.seq
  (.reg [(none, (.mov (.tmp 0), .some 14)), (none, (.call (.func 102) [.tmp 14, .const (.int .i64 4)], .some 15)), (none, (.mov (.tmp 15), .some 7))] []) (.seq
  (.reg [(none, (.mov (.tmp 5), .some 16)), (none, (.mov (.tmp 7), .some 17)), (none, (.mov (.tmp 0), .some 18)), (none, (.mkf 92 [.tmp 18] [], .some 19)), (none, (.mov (.tmp 6), .some 20)), (none, (.call (.func 103) [.tmp 16, .tmp 17, .tmp 19, .tmp 20], .some 21))] []) (.seq (.seq
  (.reg [(none, (.mov (.tmp 0), .some 22)), (none, (.call (.func 60) [.tmp 22], .some 23)), (none, (.un .not (.tmp 23), .some 24))] []) (.cond (.tmp 24) (.seq
  (.reg [(none, (.mov (.const (.slice none 0 0)), .some 4))] []) .ret) .skip)) (.seq
  (.reg [(none, (.mov (.tmp 5), .some 25)), (none, (.mov (.tmp 25), .some 4))] []) .ret))))))
theorem b63 : Try.f63.body.bind (compC Try.prog) = some c63 := by kernel_rfl
theorem r63 : compR Try.prog Try.f63 = .some [.tmp 4] := by kernel_rfl
theorem n63 : (Try.f63.name == "runtime.NumGoroutine") = false := by kernel_rfl
def c64 : C := .seq
  (.reg [(none, (.box (.tmp 0), .some 2)), (none, (.new [.slice none 0 0, .int .i64 0, .int .i64 0, .int .i64 0], .some 4)), (none, (.mov (.const (.slice none 0 0)), .some 5))] []) (.seq (.seq
  (.reg [(none, (.mov (.tmp 1), .some 10)), (none, (.bin .gtr (.tmp 10) (.const (.int .i64 2097152)), .some 11))] []) (.cond (.tmp 11)
  (.reg [(none, (.mov (.const (.int .i64 2097152)), .some 1))] []) .skip)) (.seq
  (.reg [(none, (.load (.some 4) (.tmp 2), .some 13)), (none, (.mov (.tmp 1), .some 14)), (none, (.call (.func 104) [.tmp 13, .tmp 14], .some 15)), (none, (.mov (.tmp 15), .some 12)), (none, (.ext (.tmp 12) 0, .some 16)), (none, (.ext (.tmp 12) 1, .some 17)), (none, (.new [.slice none 0 0, .int .i64 0, .int .i64 0, .int .i64 0], .some 6)), (none, (.store 4 (.tmp 6) (.tmp 16), none)), (none, (.mov (.tmp 17), .some 7))] []) (.seq
  (.reg [(none, (.load (.some 4) (.tmp 6), .some 19)), (none, (.call (.func 105) [.tmp 19, .const (.int .i64 4)], .some 20)), (none, (.mov (.tmp 20), .some 18)), (none, (.ext (.tmp 18) 0, .some 21)), (none, (.ext (.tmp 18) 1, .some 22)), (none, (.new [.slice none 0 0, .int .i64 0, .int .i64 0, .int .i64 0], .some 8)), (none, (.store 4 (.tmp 8) (.tmp 21), none)), (none, (.mov (.tmp 22), .some 9))] []) (.seq (.seq
  (.reg [(none, (.fadr 2 (.tmp 8), .some 23)), (none, (.fadr 0 (.tmp 23), .some 24)), (none, (.load none (.tmp 24), .some 25)), (none, (.bin .eql (.tmp 25) (.const (.int .i64 0)), .some 26)), (none, (.mov (.tmp 26), .some 27)), (.some (27, .true), (.mov (.tmp 9), .some 28)), (.some (27, .true), (.mov (.tmp 7), .some 29)), (.some (27, .true), (.call (.func 84) [.tmp 29], .some 30)), (.some (27, .true), (.cvt .u64 (.tmp 30), .some 31)), (.some (27, .true), (.bin .neq (.tmp 28) (.tmp 31), .some 32)), (none, (.pick (.tmp 27) (.tmp 32) (.const (.bool .false)), .some 33))] []) (.cond (.tmp 33)
  (.reg [(none, (.load (.some 4) (.tmp 8), .some 34)), (none, (.fadr 1 (.tmp 6), .some 35)), (none, (.load none (.tmp 35), .some 36)), (none, (.call (.func 97) [.tmp 34, .const (.int .i64 6), .tmp 36], .some 37)), (none, (.store 4 (.tmp 8) (.tmp 37), none))] []) .skip)) (.seq (.seq
  (.reg [(none, (.fadr 2 (.tmp 8), .some 38)), (none, (.fadr 0 (.tmp 38), .some 39)), (none, (.load none (.tmp 39), .some 40)), (none, (.bin .neq (.tmp 40) (.const (.int .i64 0)), .some 41))] []) (.cond (.tmp 41) (.seq
  (.reg [(none, (.load (.some 4) (.tmp 8), .some 42)), (none, (.store 4 (.tmp 4) (.tmp 42), none)), (none, (.mov (.const (.slice none 0 0)), .some 5))] []) .ret) .skip)) (.seq
  (.reg [(none, (.load (.some 4) (.tmp 8), .some 43)), (none, (.mov (.tmp 7), .some 44)), (none, (.store 4 (.tmp 4) (.tmp 43), none)), (none, (.mov (.tmp 44), .some 5))] []) .ret))))))
theorem b64 : Try.f64.body.bind (compC Try.prog) = some c64 := by kernel_rfl
theorem r64 : compR Try.prog Try.f64 = .some [.cell 4 (.some 4), .tmp 5] := by kernel_rfl
theorem n64 : (Try.f64.name == "runtime.NumGoroutine") = false := by kernel_rfl
def c67 : C := .seq
  (.reg [(none, (.mov (.const (.int .i64 0)), .some 6)), (none, (.mov (.const (.bool .false)), .some 7))] []) (.seq (.seq
  (.reg [(none, (.mov (.tmp 1), .some 14)), (none, (.mx .true (.tmp 14) (.const (.int .i64 0)), .some 15)), (none, (.mov (.tmp 15), .some 8))] []) (.block 0 (.loop (.seq (.seq
  (.reg [(none, (.mov (.tmp 8), .some 16)), (none, (.mov (.tmp 0), .some 17)), (none, (.len .false (.tmp 17), .some 18)), (none, (.bin .lss (.tmp 16) (.tmp 18), .some 19))] []) (.cond (.tmp 19) .skip (.exit 0))) (.seq (.block 1 (.seq (.seq
  (.reg [(none, (.mov (.tmp 0), .some 23)), (none, (.mov (.tmp 8), .some 24)), (none, (.slice 1 (.tmp 23) (.some (.tmp 24)) none none, .some 25)), (none, (.mov (.tmp 2), .some 26)), (none, (.call (.func 65) [.tmp 25, .tmp 26], .some 27)), (none, (.mov (.tmp 27), .some 22)), (none, (.ext (.tmp 22) 0, .some 28)), (none, (.ext (.tmp 22) 1, .some 29)), (none, (.mov (.tmp 28), .some 9)), (none, (.mov (.tmp 29), .some 10))] []) (.seq
  (.reg [(none, (.mov (.tmp 10), .some 30)), (none, (.un .not (.tmp 30), .some 31))] []) (.cond (.tmp 31) (.exit 1) .skip))) (.seq
  (.reg [(none, (.mov (.tmp 0), .some 33)), (none, (.mov (.tmp 8), .some 34)), (none, (.slice 1 (.tmp 33) (.some (.tmp 34)) none none, .some 35)), (none, (.mov (.tmp 2), .some 36)), (none, (.call (.func 61) [.tmp 35, .tmp 36], .some 37)), (none, (.mov (.tmp 37), .some 32)), (none, (.ext (.tmp 32) 0, .some 38)), (none, (.ext (.tmp 32) 1, .some 39)), (none, (.ext (.tmp 32) 2, .some 40)), (none, (.new [.int .i64 0, .int .i64 0], .some 13)), (none, (.mov (.tmp 38), .some 11)), (none, (.mov (.tmp 39), .some 12)), (none, (.store 2 (.tmp 13) (.tmp 40), none))] []) (.seq
  (.reg [(none, (.load (.some 2) (.tmp 13), .some 41)), (none, (.call (.func 94) [.tmp 41], .some 42))] []) (.cond (.tmp 42) (.seq
  (.reg [(none, (.mov (.tmp 8), .some 43)), (none, (.mov (.tmp 43), .some 6)), (none, (.mov (.const (.bool .true)), .some 7))] []) .ret) .skip)))))
  (.reg [(none, (.mov (.tmp 8), .some 20)), (none, (.bin .add (.tmp 20) (.const (.int .i64 1)), .some 21)), (none, (.mov (.tmp 21), .some 8))] [])))))) (.seq
  (.reg [(none, (.mov (.const (.int .i64 0)), .some 6)), (none, (.mov (.const (.bool .false)), .some 7))] []) .ret))
theorem b67 : Try.f67.body.bind (compC Try.prog) = some c67 := by kernel_rfl
theorem r67 : compR Try.prog Try.f67 = .some [.tmp 6, .tmp 7] := by kernel_rfl
theorem n67 : (Try.f67.name == "runtime.NumGoroutine") = false := by kernel_rfl
def c69 : C := .seq
  (.reg [(none, (.mov (.const (.slice none 0 0)), .some 4))] []) (.seq
  (.reg [(none, (.mov (.const (.slice none 0 0)), .some 5))] []) (.seq
  (.reg [(none, (.mov (.const (.int .i64 0)), .some 6))] []) (.block 0 (.loop (.block 1 (.seq
  (.reg [(none, (.mov (.tmp 0), .some 12)), (none, (.mov (.tmp 6), .some 13)), (none, (.mov (.tmp 1), .some 14)), (none, (.call (.func 67) [.tmp 12, .tmp 13, .tmp 14], .some 15)), (none, (.mov (.tmp 15), .some 11)), (none, (.ext (.tmp 11) 0, .some 16)), (none, (.ext (.tmp 11) 1, .some 17)), (none, (.mov (.tmp 16), .some 7)), (none, (.mov (.tmp 17), .some 8))] []) (.seq (.seq
  (.reg [(none, (.mov (.tmp 8), .some 18)), (none, (.un .not (.tmp 18), .some 19))] []) (.cond (.tmp 19) (.seq
  (.reg [(none, (.mov (.tmp 5), .some 20)), (none, (.mov (.tmp 20), .some 4))] []) .ret) .skip)) (.seq
  (.reg [(none, (.mov (.tmp 5), .some 21)), (none, (.mov (.tmp 7), .some 22)), (none, (.bsl 1 [.tmp 22], .some 23)), (none, (.app 1 8 (.tmp 21) (.tmp 23), .some 24)), (none, (.mov (.tmp 24), .some 5))] []) (.seq
  (.reg [(none, (.mov (.tmp 0), .some 26)), (none, (.mov (.tmp 7), .some 27)), (none, (.slice 1 (.tmp 26) (.some (.tmp 27)) none none, .some 28)), (none, (.mov (.tmp 1), .some 29)), (none, (.call (.func 65) [.tmp 28, .tmp 29], .some 30)), (none, (.mov (.tmp 30), .some 25)), (none, (.ext (.tmp 25) 0, .some 31)), (none, (.ext (.tmp 25) 1, .some 32)), (none, (.mov (.tmp 31), .some 9)), (none, (.mov (.tmp 32), .some 10))] [])
  (.reg [(none, (.mov (.tmp 7), .some 33)), (none, (.mov (.tmp 9), .some 34)), (none, (.bin .add (.tmp 33) (.tmp 34), .some 35)), (none, (.mov (.tmp 35), .some 6))] []))))))))))
theorem b69 : Try.f69.body.bind (compC Try.prog) = some c69 := by kernel_rfl
theorem r69 : compR Try.prog Try.f69 = .some [.tmp 4] := by kernel_rfl
theorem n69 : (Try.f69.name == "runtime.NumGoroutine") = false := by kernel_rfl
def c71 : C := .seq
  (.reg [(none, (.new [.int .i64 0, .int .i64 0], .some 4))] []) (.seq (.seq
  (.reg [(none, (.mov (.tmp 0), .some 5)), (none, (.bin .eql (.tmp 5) (.const (.int .i64 0)), .some 6))] []) (.cond (.tmp 6) (.seq
  (.reg [(none, (.build [.int .i64 0, .int .i64 0] [], .some 7)), (none, (.store 2 (.tmp 4) (.tmp 7), none))] []) .ret) .skip)) (.seq
  (.reg [(none, (.mov (.tmp 0), .some 8)), (none, (.mov (.tmp 1), .some 9)), (none, (.build [.int .i64 0, .int .i64 0] [(0, (1, .tmp 8)), (1, (1, .tmp 9))], .some 10)), (none, (.store 2 (.tmp 4) (.tmp 10), none))] []) .ret))
theorem b71 : Try.f71.body.bind (compC Try.prog) = some c71 := by kernel_rfl
theorem r71 : compR Try.prog Try.f71 = .some [.cell 4 (.some 2)] := by kernel_rfl
theorem n71 : (Try.f71.name == "runtime.NumGoroutine") = false := by kernel_rfl
def c73 : C := .seq
  (.reg [(none, (.new [.int .i64 0, .int .i64 0], .some 4))] []) (.seq
  (.reg [(none, (.build [.int .i64 0, .int .i64 0] [], .some 6)), (none, (.new [.int .i64 0, .int .i64 0], .some 5)), (none, (.store 2 (.tmp 5) (.tmp 6), none))] []) (.seq (.seq
  (.reg [(none, (.mov (.tmp 0), .some 7)), (none, (.bin .neq (.tmp 7) (.const (.int .i64 0)), .some 8))] []) (.cond (.tmp 8)
  (.reg [(none, (.mov (.tmp 0), .some 9)), (none, (.mov (.tmp 1), .some 10)), (none, (.fadr 0 (.tmp 5), .some 11)), (none, (.store 1 (.tmp 11) (.tmp 9), none)), (none, (.fadr 1 (.tmp 5), .some 12)), (none, (.store 1 (.tmp 12) (.tmp 10), none))] []) .skip)) (.seq
  (.reg [(none, (.load (.some 2) (.tmp 5), .some 13)), (none, (.store 2 (.tmp 4) (.tmp 13), none))] []) .ret)))
theorem b73 : Try.f73.body.bind (compC Try.prog) = some c73 := by kernel_rfl
theorem r73 : compR Try.prog Try.f73 = .some [.cell 4 (.some 2)] := by kernel_rfl
theorem n73 : (Try.f73.name == "runtime.NumGoroutine") = false := by kernel_rfl
def c79 : C := .seq
  (.reg [(none, (.mov (.tmp 0), .some 4)), (none, (.mov (.tmp 1), .some 5)), (none, (.len .false (.tmp 5), .some 6)), (none, (.cvt .u64 (.tmp 6), .some 7)), (none, (.call (.func 86) [.tmp 4, .tmp 7], .some 8))] [])
  (.reg [(none, (.mov (.tmp 0), .some 9)), (none, (.mov (.tmp 1), .some 10)), (none, (.call (.func 30) [.tmp 9, .tmp 10], .some 11))] [])
theorem b79 : Try.f79.body.bind (compC Try.prog) = some c79 := by kernel_rfl
theorem r79 : compR Try.prog Try.f79 = .some [] := by kernel_rfl
theorem n79 : (Try.f79.name == "runtime.NumGoroutine") = false := by kernel_rfl
def c85 : C := .seq
  (.reg [(none, (.mov (.const (.int .i64 0)), .some 2))] []) (.seq
  (.reg [(none, (.mov (.tmp 0), .some 3)), (none, (.mx .true (.tmp 3) (.const (.int .i64 0)), .some 4)), (none, (.mov (.tmp 4), .some 0))] []) (.seq
  (.reg [(none, (.mov (.tmp 0), .some 5)), (none, (.cvt .u64 (.tmp 5), .some 6)), (none, (.call (.func 113) [.tmp 6], .some 7)), (none, (.mov (.tmp 0), .some 8)), (none, (.bin .add (.tmp 7) (.tmp 8), .some 9)), (none, (.mov (.tmp 9), .some 2))] []) .ret))
theorem b85 : Try.f85.body.bind (compC Try.prog) = some c85 := by kernel_rfl
theorem r85 : compR Try.prog Try.f85 = .some [.tmp 2] := by kernel_rfl
theorem n85 : (Try.f85.name == "runtime.NumGoroutine") = false := by kernel_rfl
def c101 : C := .seq
  (.reg [(none, (.mov (.const (.int .i64 0)), .some 2))] []) (.seq
  (.reg [(none, (.mov (.tmp 0), .some 3)), (none, (.mx .false (.tmp 3) (.const (.int .i64 2097152)), .some 4)), (none, (.mov (.tmp 4), .some 2))] []) .ret)
theorem b101 : Try.f101.body.bind (compC Try.prog) = some c101 := by kernel_rfl
theorem r101 : compR Try.prog Try.f101 = .some [.tmp 2] := by kernel_rfl
theorem n101 : (Try.f101.name == "runtime.NumGoroutine") = false := by kernel_rfl
def c103 : C := .seq
  (.reg [(none, (.mov (.tmp 0), .some 8)), (none, (.call (.func 81) [.tmp 8], .some 9)), (none, (.cvt .u64 (.tmp 9), .some 10)), (none, (.mov (.tmp 1), .some 11)), (none, (.bin .neq (.tmp 10) (.tmp 11), .some 12))] []) (.cond (.tmp 12)
  (.reg [(none, (.mov (.tmp 2), .some 13)), (none, (.mov (.tmp 3), .some 14)), (none, (.call (.tmp 13) [.const (.int .i64 6), .tmp 14], .some 15))] []) .skip)
theorem b103 : Try.f103.body.bind (compC Try.prog) = some c103 := by kernel_rfl
theorem r103 : compR Try.prog Try.f103 = .some [] := by kernel_rfl
theorem n103 : (Try.f103.name == "runtime.NumGoroutine") = false := by kernel_rfl
def c106 : C := .seq
  (.reg [(none, (.mov (.const (.int .i64 0)), .some 4))] []) (.seq (.seq
  (.reg [(none, (.mov (.tmp 1), .some 6)), (none, (.bin .geq (.tmp 6) (.const (.int .i64 0)), .some 7))] []) (.cond (.tmp 7) (.seq
  (.reg [(none, (.mov (.tmp 0), .some 8)), (none, (.mov (.tmp 1), .some 9)), (none, (.cvt .u64 (.tmp 9), .some 10)), (none, (.call (.func 118) [.tmp 8, .tmp 10], .some 11)), (none, (.cvt .i64 (.tmp 11), .some 12)), (none, (.mov (.tmp 12), .some 4))] []) .ret) .skip)) (.seq
  (.reg [(none, (.mov (.tmp 0), .some 13)), (none, (.call (.func 57) [.tmp 13], .some 14)), (none, (.mov (.tmp 14), .some 5))] []) (.seq
  (.reg [(none, (.mov (.tmp 0), .some 15)), (none, (.call (.func 99) [.tmp 15], .some 16))] []) (.seq
  (.reg [(none, (.mov (.tmp 0), .some 17)), (none, (.mov (.tmp 5), .some 18)), (none, (.call (.func 92) [.tmp 17, .const (.int .i64 2), .tmp 18], .some 19))] []) (.seq
  (.reg [(none, (.mov (.const (.int .i64 0)), .some 4))] []) .ret)))))
theorem b106 : Try.f106.body.bind (compC Try.prog) = some c106 := by kernel_rfl
theorem r106 : compR Try.prog Try.f106 = .some [.tmp 4] := by kernel_rfl
theorem n106 : (Try.f106.name == "runtime.NumGoroutine") = false := by kernel_rfl
def c111 : C := .seq
  (.reg [(none, (.mov (.const (.int .u32 0)), .some 0))] []) (.seq
  (.reg [(none, (.mov (.const (.int .u32 4294967295)), .some 0))] []) .ret)
theorem b111 : Try.f111.body.bind (compC Try.prog) = some c111 := by kernel_rfl
theorem r111 : compR Try.prog Try.f111 = .some [.tmp 0] := by kernel_rfl
theorem n111 : (Try.f111.name == "runtime.NumGoroutine") = false := by kernel_rfl
def c113 : C := .seq
  (.reg [(none, (.mov (.const (.int .i64 0)), .some 2))] []) (.seq
  (.reg [(none, (.mov (.const (.int .i64 1)), .some 3))] []) (.seq (.block 0 (.loop (.seq (.seq
  (.reg [(none, (.mov (.tmp 0), .some 4)), (none, (.bin .geq (.tmp 4) (.const (.int .u64 128)), .some 5))] []) (.cond (.tmp 5) .skip (.exit 0))) (.block 1 (.seq
  (.reg [(none, (.mov (.tmp 0), .some 6)), (none, (.bin .shr (.tmp 6) (.const (.int .u64 7)), .some 7)), (none, (.mov (.tmp 7), .some 0))] [])
  (.reg [(none, (.mov (.tmp 3), .some 8)), (none, (.bin .add (.tmp 8) (.const (.int .i64 1)), .some 9)), (none, (.mov (.tmp 9), .some 3))] [])))))) (.seq
  (.reg [(none, (.mov (.tmp 3), .some 10)), (none, (.mov (.tmp 10), .some 2))] []) .ret)))
theorem b113 : Try.f113.body.bind (compC Try.prog) = some c113 := by kernel_rfl
theorem r113 : compR Try.prog Try.f113 = .some [.tmp 2] := by kernel_rfl
theorem n113 : (Try.f113.name == "runtime.NumGoroutine") = false := by kernel_rfl
def c114 : C := .seq
  (.reg [(none, (.mov (.const (.slice none 0 0)), .some 2))] []) (.seq
  (.reg [(none, (.mov (.const (.slice none 0 0)), .some 3))] []) (.seq (.block 0 (.loop (.seq (.seq
  (.reg [(none, (.mov (.tmp 0), .some 4)), (none, (.bin .geq (.tmp 4) (.const (.int .u64 128)), .some 5))] []) (.cond (.tmp 5) .skip (.exit 0))) (.block 1 (.seq
  (.reg [(none, (.mov (.tmp 3), .some 6)), (none, (.mov (.tmp 0), .some 7)), (none, (.cvt .u8 (.tmp 7), .some 8)), (none, (.bin .or (.tmp 8) (.const (.int .u8 128)), .some 9)), (none, (.bsl 1 [.tmp 9], .some 10)), (none, (.app 1 1 (.tmp 6) (.tmp 10), .some 11)), (none, (.mov (.tmp 11), .some 3))] [])
  (.reg [(none, (.mov (.tmp 0), .some 12)), (none, (.bin .shr (.tmp 12) (.const (.int .u64 7)), .some 13)), (none, (.mov (.tmp 13), .some 0))] [])))))) (.seq
  (.reg [(none, (.mov (.tmp 3), .some 14)), (none, (.mov (.tmp 0), .some 15)), (none, (.cvt .u8 (.tmp 15), .some 16)), (none, (.bsl 1 [.tmp 16], .some 17)), (none, (.app 1 1 (.tmp 14) (.tmp 17), .some 18)), (none, (.mov (.tmp 18), .some 2))] []) .ret)))
theorem b114 : Try.f114.body.bind (compC Try.prog) = some c114 := by kernel_rfl
theorem r114 : compR Try.prog Try.f114 = .some [.tmp 2] := by kernel_rfl
theorem n114 : (Try.f114.name == "runtime.NumGoroutine") = false := by kernel_rfl
def c116 : C := .seq
  (.reg [(none, (.mov (.const (.int .u64 0)), .some 2)), (none, (.mov (.const (.int .i64 0)), .some 3)), (none, (.new [.int .i64 0, .int .i64 0], .some 4))] []) (.seq (.seq
  (.reg [(none, (.mov (.const (.int .i64 0)), .some 5))] []) (.block 0 (.loop (.seq (.seq
  (.reg [(none, (.mov (.tmp 5), .some 8)), (none, (.mov (.tmp 0), .some 9)), (none, (.len .false (.tmp 9), .some 10)), (none, (.bin .lss (.tmp 8) (.tmp 10), .some 11))] []) (.cond (.tmp 11) .skip (.exit 0))) (.seq (.block 1 (.seq (.seq
  (.reg [(none, (.mov (.tmp 5), .some 14)), (none, (.bin .eql (.tmp 14) (.const (.int .i64 9)), .some 15)), (none, (.mov (.tmp 15), .some 16)), (.some (16, .true), (.mov (.tmp 0), .some 17)), (.some (16, .true), (.mov (.tmp 5), .some 18)), (.some (16, .true), (.iadr 1 (.tmp 17) (.tmp 18), .some 19)), (.some (16, .true), (.load none (.tmp 19), .some 20)), (.some (16, .true), (.bin .gtr (.tmp 20) (.const (.int .u8 1)), .some 21)), (none, (.pick (.tmp 16) (.tmp 21) (.const (.bool .false)), .some 22))] []) (.cond (.tmp 22) (.seq
  (.reg [(none, (.mov (.tmp 5), .some 23)), (none, (.call (.func 73) [.const (.int .i64 5), .tmp 23], .some 24)), (none, (.mov (.const (.int .u64 0)), .some 2)), (none, (.mov (.const (.int .i64 0)), .some 3)), (none, (.store 2 (.tmp 4) (.tmp 24), none))] []) .ret) .skip)) (.seq (.seq
  (.reg [(none, (.mov (.tmp 5), .some 25)), (none, (.bin .gtr (.tmp 25) (.const (.int .i64 0)), .some 26)), (none, (.mov (.tmp 26), .some 27)), (.some (27, .true), (.mov (.tmp 0), .some 28)), (.some (27, .true), (.mov (.tmp 5), .some 29)), (.some (27, .true), (.iadr 1 (.tmp 28) (.tmp 29), .some 30)), (.some (27, .true), (.load none (.tmp 30), .some 31)), (.some (27, .true), (.bin .eql (.tmp 31) (.const (.int .u8 0)), .some 32)), (none, (.pick (.tmp 27) (.tmp 32) (.const (.bool .false)), .some 33))] []) (.cond (.tmp 33) (.seq
  (.reg [(none, (.mov (.tmp 5), .some 34)), (none, (.call (.func 73) [.const (.int .i64 4), .tmp 34], .some 35)), (none, (.mov (.const (.int .u64 0)), .some 2)), (none, (.mov (.const (.int .i64 0)), .some 3)), (none, (.store 2 (.tmp 4) (.tmp 35), none))] []) .ret) .skip)) (.seq
  (.reg [(none, (.mov (.tmp 0), .some 36)), (none, (.mov (.tmp 5), .some 37)), (none, (.iadr 1 (.tmp 36) (.tmp 37), .some 38)), (none, (.load none (.tmp 38), .some 39)), (none, (.bin .lss (.tmp 39) (.const (.int .u8 128)), .some 40))] []) (.cond (.tmp 40) (.seq
  (.reg [(none, (.mov (.const (.int .u64 0)), .some 6))] []) (.seq (.seq
  (.reg [(none, (.mov (.tmp 5), .some 41)), (none, (.mov (.tmp 41), .some 7))] []) (.block 2 (.loop (.seq (.seq
  (.reg [(none, (.mov (.tmp 7), .some 42)), (none, (.bin .geq (.tmp 42) (.const (.int .i64 0)), .some 43))] []) (.cond (.tmp 43) .skip (.exit 2))) (.seq (.block 3
  (.reg [(none, (.mov (.tmp 6), .some 46)), (none, (.bin .mul (.const (.int .u64 128)) (.tmp 46), .some 47)), (none, (.mov (.tmp 0), .some 48)), (none, (.mov (.tmp 7), .some 49)), (none, (.iadr 1 (.tmp 48) (.tmp 49), .some 50)), (none, (.load none (.tmp 50), .some 51)), (none, (.bin .rem (.tmp 51) (.const (.int .u8 128)), .some 52)), (none, (.cvt .u64 (.tmp 52), .some 53)), (none, (.bin .add (.tmp 47) (.tmp 53), .some 54)), (none, (.mov (.tmp 54), .some 6))] []))
  (.reg [(none, (.mov (.tmp 7), .some 44)), (none, (.bin .sub (.tmp 44) (.const (.int .i64 1)), .some 45)), (none, (.mov (.tmp 45), .some 7))] [])))))) (.seq
  (.reg [(none, (.mov (.tmp 6), .some 55)), (none, (.mov (.tmp 5), .some 56)), (none, (.bin .add (.tmp 56) (.const (.int .i64 1)), .some 57)), (none, (.build [.int .i64 0, .int .i64 0] [], .some 58)), (none, (.mov (.tmp 55), .some 2)), (none, (.mov (.tmp 57), .some 3)), (none, (.store 2 (.tmp 4) (.tmp 58), none))] []) .ret))) .skip)))))
  (.reg [(none, (.mov (.tmp 5), .some 12)), (none, (.bin .add (.tmp 12) (.const (.int .i64 1)), .some 13)), (none, (.mov (.tmp 13), .some 5))] [])))))) (.seq
  (.reg [(none, (.mov (.tmp 0), .some 59)), (none, (.len .false (.tmp 59), .some 60)), (none, (.call (.func 73) [.const (.int .i64 1), .tmp 60], .some 61)), (none, (.mov (.const (.int .u64 0)), .some 2)), (none, (.mov (.const (.int .i64 0)), .some 3)), (none, (.store 2 (.tmp 4) (.tmp 61), none))] []) .ret))
theorem b116 : Try.f116.body.bind (compC Try.prog) = some c116 := by kernel_rfl
theorem r116 : compR Try.prog Try.f116 = .some [.tmp 2, .tmp 3, .cell 4 (.some 2)] := by kernel_rfl
theorem n116 : (Try.f116.name == "runtime.NumGoroutine") = false := by kernel_rfl
end Go.Proofs.Ytpjkmidjjodplaa
