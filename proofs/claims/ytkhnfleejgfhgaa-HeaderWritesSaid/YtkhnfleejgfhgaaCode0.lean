/-
  The codes of the seat's functions over abstract values, each shown to be its function's own (by program: wip/tools/codes.py).
-/
import Derived.Test.YtkhnfleejgfhgaaA2
import Derived.Test.YtkhnfleejgfhgaaProg
import Derived.KernelRfl
namespace Go.Proofs.Ytkhnfleejgfhgaa
def c13 : C := .seq
  (.reg [(none, (.mov (.const (.bool .false)), .some 4))] []) (.seq (.seq
  (.reg [(none, (.mov (.tmp 0), .some 18)), (none, (.len .false (.tmp 18), .some 19)), (none, (.bin .gtr (.tmp 19) (.const (.int .i64 300)), .some 20))] []) (.cond (.tmp 20) (.seq
  (.reg [(none, (.call (.func 60) [], .some 21)), (none, (.mov (.tmp 21), .some 4))] []) .ret) .skip)) (.seq
  (.reg [(none, (.mov (.tmp 0), .some 23)), (none, (.call (.func 63) [.tmp 23], .some 24)), (none, (.mov (.tmp 24), .some 22)), (none, (.ext (.tmp 22) 0, .some 25)), (none, (.ext (.tmp 22) 1, .some 26)), (none, (.ext (.tmp 22) 2, .some 27)), (none, (.new [.int .i64 0, .int .u64 0, .int .u64 0], .some 5)), (none, (.new [.int .i64 0, .int .i64 0], .some 7)), (none, (.store 3 (.tmp 5) (.tmp 25), none)), (none, (.mov (.tmp 26), .some 6)), (none, (.store 2 (.tmp 7) (.tmp 27), none))] []) (.seq
  (.reg [(none, (.mov (.tmp 0), .some 29)), (none, (.build [.slice none 0 0, .int .i64 0, .int .i64 0, .int .i64 0] [(0, (1, .tmp 29))], .some 30)), (none, (.call (.func 76) [.tmp 30], .some 31)), (none, (.mov (.tmp 31), .some 28)), (none, (.ext (.tmp 28) 0, .some 32)), (none, (.ext (.tmp 28) 1, .some 33)), (none, (.new [.slice none 0 0, .int .i64 0, .int .i64 0, .int .i64 0], .some 8)), (none, (.new [.int .i64 0, .int .u64 0, .int .u64 0], .some 9)), (none, (.store 4 (.tmp 8) (.tmp 32), none)), (none, (.store 3 (.tmp 9) (.tmp 33), none))] []) (.seq (.seq
  (.reg [(none, (.load (.some 3) (.tmp 5), .some 34)), (none, (.call (.func 59) [.tmp 34], .some 35)), (none, (.load (.some 3) (.tmp 9), .some 36)), (none, (.eqa .true 3 (.tmp 35) (.tmp 36), .some 37)), (none, (.mov (.tmp 37), .some 38)), (.some (38, .false), (.load (.some 2) (.tmp 7), .some 39)), (.some (38, .false), (.fadr 2 (.tmp 8), .some 40)), (.some (38, .false), (.load (.some 2) (.tmp 40), .some 41)), (.some (38, .false), (.eqa .true 2 (.tmp 39) (.tmp 41), .some 42)), (none, (.pick (.tmp 38) (.const (.bool .true)) (.tmp 42), .some 43)), (none, (.mov (.tmp 43), .some 44)), (.some (44, .false), (.fadr 2 (.tmp 8), .some 45)), (.some (44, .false), (.fadr 0 (.tmp 45), .some 46)), (.some (44, .false), (.load none (.tmp 46), .some 47)), (.some (44, .false), (.bin .eql (.tmp 47) (.const (.int .i64 0)), .some 48)), (.some (44, .false), (.mov (.tmp 48), .some 49)), (.some (49, .true), (.mov (.tmp 6), .some 50)), (.some (49, .true), (.fadr 1 (.tmp 8), .some 51)), (.some (49, .true), (.load none (.tmp 51), .some 52)), (.some (49, .true), (.bin .neq (.tmp 50) (.tmp 52), .some 53)), (.some (49, .true), (.mov (.tmp 53), .some 54)), (.some (54, .false), (.load (.some 3) (.tmp 9), .some 55)), (.some (54, .false), (.call (.func 74) [.tmp 55], .some 56)), (.some (54, .false), (.mov (.tmp 0), .some 57)), (.some (54, .false), (.mov (.tmp 6), .some 58)), (.some (54, .false), (.slice 1 (.tmp 57) none (.some (.tmp 58)) none, .some 59)), (.some (54, .false), (.call (.func 23) [.tmp 56, .tmp 59], .some 60)), (.some (54, .false), (.un .not (.tmp 60), .some 61)), (.some (49, .true), (.pick (.tmp 54) (.const (.bool .true)) (.tmp 61), .some 62)), (.some (44, .false), (.pick (.tmp 49) (.tmp 62) (.const (.bool .false)), .some 63)), (none, (.pick (.tmp 44) (.const (.bool .true)) (.tmp 63), .some 64)), (none, (.mov (.tmp 64), .some 65)), (.some (65, .false), (.fadr 2 (.tmp 8), .some 66)), (.some (65, .false), (.fadr 0 (.tmp 66), .some 67)), (.some (65, .false), (.load none (.tmp 67), .some 68)), (.some (65, .false), (.bin .neq (.tmp 68) (.const (.int .i64 0)), .some 69)), (.some (65, .false), (.mov (.tmp 69), .some 70)), (.some (70, .true), (.mov (.tmp 6), .some 71)), (.some (70, .true), (.bin .neq (.tmp 71) (.const (.int .i64 0)), .some 72)), (.some (65, .false), (.pick (.tmp 70) (.tmp 72) (.const (.bool .false)), .some 73)), (none, (.pick (.tmp 65) (.const (.bool .true)) (.tmp 73), .some 74))] [(0, 2), (1, 2), (5, 7)]) (.cond (.tmp 74) (.seq
  (.reg [(none, (.mov (.const (.bool .false)), .some 4))] []) .ret) .skip)) (.seq
  (.reg [(none, (.mov (.tmp 0), .some 76)), (none, (.call (.func 73) [.tmp 76], .some 77)), (none, (.mov (.tmp 77), .some 75)), (none, (.ext (.tmp 75) 0, .some 78)), (none, (.ext (.tmp 75) 1, .some 79)), (none, (.new [.int .i64 0, .int .i64 0], .some 11)), (none, (.mov (.tmp 78), .some 10)), (none, (.store 2 (.tmp 11) (.tmp 79), none))] []) (.seq
  (.reg [(none, (.mov (.tmp 0), .some 81)), (none, (.build [.slice none 0 0, .int .i64 0, .int .i64 0, .int .i64 0] [(0, (1, .tmp 81))], .some 82)), (none, (.call (.func 77) [.tmp 82], .some 83)), (none, (.mov (.tmp 83), .some 80)), (none, (.ext (.tmp 80) 0, .some 84)), (none, (.ext (.tmp 80) 1, .some 85)), (none, (.new [.slice none 0 0, .int .i64 0, .int .i64 0, .int .i64 0], .some 12)), (none, (.store 4 (.tmp 12) (.tmp 84), none)), (none, (.mov (.tmp 85), .some 13))] []) (.seq (.seq
  (.reg [(none, (.mov (.tmp 10), .some 86)), (none, (.mov (.tmp 13), .some 87)), (none, (.bin .neq (.tmp 86) (.tmp 87), .some 88)), (none, (.mov (.tmp 88), .some 89)), (.some (89, .false), (.load (.some 2) (.tmp 11), .some 90)), (.some (89, .false), (.fadr 2 (.tmp 12), .some 91)), (.some (89, .false), (.load (.some 2) (.tmp 91), .some 92)), (.some (89, .false), (.eqa .true 2 (.tmp 90) (.tmp 92), .some 93)), (none, (.pick (.tmp 89) (.const (.bool .true)) (.tmp 93), .some 94))] []) (.cond (.tmp 94) (.seq
  (.reg [(none, (.mov (.const (.bool .false)), .some 4))] []) .ret) .skip)) (.seq
  (.reg [(none, (.mov (.tmp 1), .some 95)), (none, (.mx .true (.tmp 95) (.const (.int .i64 0)), .some 96)), (none, (.mov (.tmp 0), .some 97)), (none, (.len .false (.tmp 97), .some 98)), (none, (.mx .false (.tmp 96) (.tmp 98), .some 99)), (none, (.mov (.tmp 99), .some 1))] []) (.seq
  (.reg [(none, (.mov (.tmp 0), .some 100)), (none, (.call (.func 44) [.tmp 100], .some 101)), (none, (.mov (.tmp 101), .some 14))] []) (.seq
  (.reg [(none, (.mov (.tmp 14), .some 102)), (none, (.mov (.tmp 1), .some 103)), (none, (.call (.func 78) [.tmp 102, .tmp 103], .some 104))] []) (.seq
  (.reg [(none, (.mov (.tmp 14), .some 105)), (none, (.call (.func 79) [.tmp 105], .some 106)), (none, (.new [.int .i64 0, .int .u64 0, .int .u64 0], .some 15)), (none, (.store 3 (.tmp 15) (.tmp 106), none))] []) (.seq
  (.reg [(none, (.mov (.tmp 0), .some 108)), (none, (.mov (.tmp 1), .some 109)), (none, (.build [.slice none 0 0, .int .i64 0, .int .i64 0, .int .i64 0] [(0, (1, .tmp 108)), (1, (1, .tmp 109))], .some 110)), (none, (.call (.func 76) [.tmp 110], .some 111)), (none, (.mov (.tmp 111), .some 107)), (none, (.ext (.tmp 107) 0, .some 112)), (none, (.ext (.tmp 107) 1, .some 113)), (none, (.new [.slice none 0 0, .int .i64 0, .int .i64 0, .int .i64 0], .some 16)), (none, (.new [.int .i64 0, .int .u64 0, .int .u64 0], .some 17)), (none, (.store 4 (.tmp 16) (.tmp 112), none)), (none, (.store 3 (.tmp 17) (.tmp 113), none))] []) (.seq
  (.reg [(none, (.load (.some 3) (.tmp 15), .some 114)), (none, (.call (.func 59) [.tmp 114], .some 115)), (none, (.load (.some 3) (.tmp 17), .some 116)), (none, (.eqa .false 3 (.tmp 115) (.tmp 116), .some 117)), (none, (.mov (.tmp 117), .some 118)), (.some (118, .true), (.mov (.tmp 14), .some 119)), (.some (118, .true), (.call (.func 48) [.tmp 119], .some 120)), (.some (118, .true), (.fadr 2 (.tmp 16), .some 121)), (.some (118, .true), (.load (.some 2) (.tmp 121), .some 122)), (.some (118, .true), (.eqa .false 2 (.tmp 120) (.tmp 122), .some 123)), (none, (.pick (.tmp 118) (.tmp 123) (.const (.bool .false)), .some 124)), (none, (.mov (.tmp 124), .some 125)), (.some (125, .true), (.call (.func 60) [], .some 126)), (none, (.pick (.tmp 125) (.tmp 126) (.const (.bool .false)), .some 127)), (none, (.mov (.tmp 127), .some 4))] [(0, 2), (1, 2), (6, 8)]) .ret)))))))))))))
theorem b13 : Try.f13.body.bind (compC Try.prog) = some c13 := by kernel_rfl
theorem r13 : compR Try.prog Try.f13 = .some [.tmp 4] := by kernel_rfl
theorem n13 : (Try.f13.name == "runtime.NumGoroutine") = false := by kernel_rfl
def c55 : C := .seq
  (.reg [(none, (.mov (.const (.slice none 0 0)), .some 2)), (none, (.mov (.const (.int .i64 0)), .some 3))] []) (.seq (.seq
  (.reg [(none, (.mov (.tmp 0), .some 5)), (none, (.call (.func 130) [.tmp 5], .some 6)), (none, (.mov (.tmp 6), .some 4))] []) (.seq
  (.reg [(none, (.mov (.tmp 4), .some 7)), (none, (.bin .neq (.tmp 7) (.const (.int .i64 0)), .some 8))] []) (.cond (.tmp 8) (.seq
  (.reg [(none, (.mov (.tmp 4), .some 9)), (none, (.mov (.const (.slice none 0 0)), .some 2)), (none, (.mov (.tmp 9), .some 3))] []) .ret) .skip))) (.seq
  (.reg [(none, (.bsl 1 [], .some 10)), (none, (.mov (.tmp 0), .some 11)), (none, (.nilc (.tmp 11), .some 12)), (none, (.fadr 1 (.tmp 12), .some 13)), (none, (.load none (.tmp 13), .some 14)), (none, (.app 1 1 (.tmp 10) (.tmp 14), .some 15)), (none, (.mov (.tmp 15), .some 2)), (none, (.mov (.const (.int .i64 0)), .some 3))] []) .ret))
theorem b55 : Try.f55.body.bind (compC Try.prog) = some c55 := by kernel_rfl
theorem r55 : compR Try.prog Try.f55 = .some [.tmp 2, .tmp 3] := by kernel_rfl
theorem n55 : (Try.f55.name == "runtime.NumGoroutine") = false := by kernel_rfl
def c57 : C := .seq
  (.reg [(none, (.mov (.const (.bool .false)), .some 2))] []) (.seq
  (.reg [(none, (.mov (.tmp 0), .some 3)), (none, (.eqp .true (.tmp 3) (.const (.pointer none)), .some 4)), (none, (.mov (.tmp 4), .some 5)), (.some (5, .true), (.mov (.tmp 0), .some 6)), (.some (5, .true), (.nilc (.tmp 6), .some 7)), (.some (5, .true), (.fadr 2 (.tmp 7), .some 8)), (.some (5, .true), (.load (.some 2) (.tmp 8), .some 9)), (.some (5, .true), (.call (.func 102) [.tmp 9], .some 10)), (none, (.pick (.tmp 5) (.tmp 10) (.const (.bool .false)), .some 11)), (none, (.mov (.tmp 11), .some 2))] []) .ret)
theorem b57 : Try.f57.body.bind (compC Try.prog) = some c57 := by kernel_rfl
theorem r57 : compR Try.prog Try.f57 = .some [.tmp 2] := by kernel_rfl
theorem n57 : (Try.f57.name == "runtime.NumGoroutine") = false := by kernel_rfl
def c60 : C := .seq
  (.reg [(none, (.mov (.const (.bool .false)), .some 0))] []) (.seq
  (.reg [(none, (.build [.int .i64 0, .int .u64 0, .int .u64 0] [(0, (1, .const (.int .i64 3))), (1, (1, .const (.int .u64 5)))], .some 4)), (none, (.call (.func 61) [.tmp 4], .some 5)), (none, (.mov (.tmp 5), .some 3)), (none, (.ext (.tmp 3) 0, .some 6)), (none, (.ext (.tmp 3) 1, .some 7)), (none, (.mov (.tmp 6), .some 1)), (none, (.mov (.tmp 7), .some 2))] []) (.seq
  (.reg [(none, (.mov (.tmp 2), .some 8)), (none, (.bin .eql (.tmp 8) (.const (.int .i64 0)), .some 9)), (none, (.mov (.tmp 9), .some 10)), (.some (10, .true), (.mov (.tmp 1), .some 11)), (.some (10, .true), (.len .false (.tmp 11), .some 12)), (.some (10, .true), (.bin .eql (.tmp 12) (.const (.int .i64 10)), .some 13)), (none, (.pick (.tmp 10) (.tmp 13) (.const (.bool .false)), .some 14)), (none, (.mov (.tmp 14), .some 15)), (.some (15, .true), (.mov (.tmp 1), .some 16)), (.some (15, .true), (.slice 1 (.tmp 16) none (.some (.const (.int .i64 6))) none, .some 17)), (.some (15, .true), (.b2s (.tmp 17), .some 18)), (.some (15, .true), (.bin .eql (.tmp 18) (.const (.string (.mk (#[84, 72, 79, 76, 3, 5])))), .some 19)), (none, (.pick (.tmp 15) (.tmp 19) (.const (.bool .false)), .some 20)), (none, (.mov (.tmp 20), .some 21)), (.some (21, .true), (.call (.func 134) [], .some 22)), (.some (21, .true), (.bin .eql (.tmp 22) (.const (.string (.mk (#[84, 72, 79, 76])))), .some 23)), (none, (.pick (.tmp 21) (.tmp 23) (.const (.bool .false)), .some 24)), (none, (.mov (.tmp 24), .some 25)), (.some (25, .true), (.call (.func 75) [], .some 26)), (.some (25, .true), (.bin .eql (.tmp 26) (.const (.int .i64 27)), .some 27)), (none, (.pick (.tmp 25) (.tmp 27) (.const (.bool .false)), .some 28)), (none, (.mov (.tmp 28), .some 0))] []) .ret))
theorem b60 : Try.f60.body.bind (compC Try.prog) = some c60 := by kernel_rfl
theorem r60 : compR Try.prog Try.f60 = .some [.tmp 0] := by kernel_rfl
theorem n60 : (Try.f60.name == "runtime.NumGoroutine") = false := by kernel_rfl
def c61 : C := .seq
  (.reg [(none, (.box (.tmp 0), .some 1)), (none, (.mov (.const (.slice none 0 0)), .some 2)), (none, (.mov (.const (.int .i64 0)), .some 3))] []) (.seq
  (.reg [(none, (.call (.func 75) [], .some 5)), (none, (.call (.func 53) [.tmp 5], .some 6)), (none, (.mov (.tmp 6), .some 4))] []) (.seq
  (.reg [(none, (.mov (.tmp 4), .some 7)), (none, (.load (.some 3) (.tmp 1), .some 8)), (none, (.call (.func 71) [.tmp 7, .tmp 8], .some 9))] []) (.seq
  (.reg [(none, (.mov (.tmp 4), .some 10)), (none, (.call (.func 55) [.tmp 10], .some 11)), (none, (.ext (.tmp 11) 0, .some 12)), (none, (.ext (.tmp 11) 1, .some 13)), (none, (.mov (.tmp 12), .some 2)), (none, (.mov (.tmp 13), .some 3))] []) .ret)))
theorem b61 : Try.f61.body.bind (compC Try.prog) = some c61 := by kernel_rfl
theorem r61 : compR Try.prog Try.f61 = .some [.tmp 2, .tmp 3] := by kernel_rfl
theorem n61 : (Try.f61.name == "runtime.NumGoroutine") = false := by kernel_rfl
def c102 : C := .seq
  (.reg [(none, (.box (.tmp 0), .some 1)), (none, (.mov (.const (.bool .false)), .some 2))] []) (.seq
  (.reg [(none, (.fadr 0 (.tmp 1), .some 3)), (none, (.load none (.tmp 3), .some 4)), (none, (.bin .eql (.tmp 4) (.const (.int .i64 0)), .some 5)), (none, (.mov (.tmp 5), .some 2))] []) .ret)
theorem b102 : Try.f102.body.bind (compC Try.prog) = some c102 := by kernel_rfl
theorem r102 : compR Try.prog Try.f102 = .some [.tmp 2] := by kernel_rfl
theorem n102 : (Try.f102.name == "runtime.NumGoroutine") = false := by kernel_rfl
def c105 : C := .seq
  (.reg [(none, (.box (.tmp 0), .some 2)), (none, (.new [.slice none 0 0, .int .i64 0, .int .i64 0, .int .i64 0], .some 4)), (none, (.mov (.const (.int .u64 0)), .some 5))] []) (.seq
  (.reg [(none, (.load (.some 4) (.tmp 2), .some 9)), (none, (.call (.func 107) [.tmp 9], .some 10)), (none, (.mov (.tmp 10), .some 8)), (none, (.ext (.tmp 8) 0, .some 11)), (none, (.ext (.tmp 8) 1, .some 12)), (none, (.new [.slice none 0 0, .int .i64 0, .int .i64 0, .int .i64 0], .some 6)), (none, (.store 4 (.tmp 6) (.tmp 11), none)), (none, (.mov (.tmp 12), .some 7))] []) (.seq (.seq
  (.reg [(none, (.fadr 2 (.tmp 6), .some 13)), (none, (.fadr 0 (.tmp 13), .some 14)), (none, (.load none (.tmp 14), .some 15)), (none, (.bin .neq (.tmp 15) (.const (.int .i64 0)), .some 16))] []) (.cond (.tmp 16) (.seq
  (.reg [(none, (.load (.some 4) (.tmp 6), .some 17)), (none, (.store 4 (.tmp 4) (.tmp 17), none)), (none, (.mov (.const (.int .u64 0)), .some 5))] []) .ret) .skip)) (.seq (.seq
  (.reg [(none, (.mov (.tmp 1), .some 18)), (none, (.bin .eql (.tmp 18) (.const (.int .i64 1)), .some 19)), (none, (.mov (.tmp 19), .some 20)), (.some (20, .true), (.mov (.tmp 7), .some 21)), (.some (20, .true), (.call (.func 109) [.tmp 21], .some 22)), (.some (20, .true), (.un .not (.tmp 22), .some 23)), (none, (.pick (.tmp 20) (.tmp 23) (.const (.bool .false)), .some 24)), (none, (.mov (.tmp 24), .some 25)), (.some (25, .false), (.mov (.tmp 1), .some 26)), (.some (25, .false), (.bin .eql (.tmp 26) (.const (.int .i64 2)), .some 27)), (.some (25, .false), (.mov (.tmp 27), .some 28)), (.some (28, .true), (.mov (.tmp 7), .some 29)), (.some (28, .true), (.call (.func 133) [.tmp 29], .some 30)), (.some (28, .true), (.un .not (.tmp 30), .some 31)), (.some (25, .false), (.pick (.tmp 28) (.tmp 31) (.const (.bool .false)), .some 32)), (none, (.pick (.tmp 25) (.const (.bool .true)) (.tmp 32), .some 33)), (none, (.mov (.tmp 33), .some 34)), (.some (34, .false), (.mov (.tmp 1), .some 35)), (.some (34, .false), (.bin .eql (.tmp 35) (.const (.int .i64 3)), .some 36)), (.some (34, .false), (.mov (.tmp 36), .some 37)), (.some (37, .true), (.mov (.tmp 7), .some 38)), (.some (37, .true), (.bin .gtr (.tmp 38) (.const (.int .u64 4611686018427387904)), .some 39)), (.some (34, .false), (.pick (.tmp 37) (.tmp 39) (.const (.bool .false)), .some 40)), (none, (.pick (.tmp 34) (.const (.bool .true)) (.tmp 40), .some 41))] []) (.cond (.tmp 41) (.seq
  (.reg [(none, (.load (.some 4) (.tmp 6), .some 42)), (none, (.fadr 1 (.tmp 2), .some 43)), (none, (.load none (.tmp 43), .some 44)), (none, (.call (.func 104) [.tmp 42, .const (.int .i64 3), .tmp 44], .some 45)), (none, (.store 4 (.tmp 4) (.tmp 45), none)), (none, (.mov (.const (.int .u64 0)), .some 5))] []) .ret) .skip)) (.seq
  (.reg [(none, (.load (.some 4) (.tmp 6), .some 46)), (none, (.mov (.tmp 7), .some 47)), (none, (.store 4 (.tmp 4) (.tmp 46), none)), (none, (.mov (.tmp 47), .some 5))] []) .ret))))
theorem b105 : Try.f105.body.bind (compC Try.prog) = some c105 := by kernel_rfl
theorem r105 : compR Try.prog Try.f105 = .some [.cell 4 (.some 4), .tmp 5] := by kernel_rfl
theorem n105 : (Try.f105.name == "runtime.NumGoroutine") = false := by kernel_rfl
def c109 : C := .seq
  (.reg [(none, (.mov (.const (.bool .false)), .some 2))] []) (.seq
  (.reg [(none, (.mov (.tmp 0), .some 3)), (none, (.bin .gtr (.tmp 3) (.const (.int .u64 0)), .some 4)), (none, (.mov (.tmp 4), .some 5)), (.some (5, .true), (.mov (.tmp 0), .some 6)), (.some (5, .true), (.bin .leq (.tmp 6) (.const (.int .u64 4611686018427387903)), .some 7)), (none, (.pick (.tmp 5) (.tmp 7) (.const (.bool .false)), .some 8)), (none, (.mov (.tmp 8), .some 2))] []) .ret)
theorem b109 : Try.f109.body.bind (compC Try.prog) = some c109 := by kernel_rfl
theorem r109 : compR Try.prog Try.f109 = .some [.tmp 2] := by kernel_rfl
theorem n109 : (Try.f109.name == "runtime.NumGoroutine") = false := by kernel_rfl
def c127 : C := .reg [(none, (.mov (.tmp 0), .some 4)), (none, (.mov (.tmp 1), .some 5)), (none, (.call (.func 172) [.tmp 5], .some 6)), (none, (.call (.func 140) [.tmp 4, .tmp 6], .some 7))] []
theorem b127 : Try.f127.body.bind (compC Try.prog) = some c127 := by kernel_rfl
theorem r127 : compR Try.prog Try.f127 = .some [] := by kernel_rfl
theorem n127 : (Try.f127.name == "runtime.NumGoroutine") = false := by kernel_rfl
def c140 : C := .block 0 (.seq
  (.reg [(none, (.mov (.tmp 0), .some 14)), (none, (.call (.func 130) [.tmp 14], .some 15)), (none, (.bin .neq (.tmp 15) (.const (.int .i64 0)), .some 16)), (none, (.mov (.tmp 16), .some 13))] []) (.cond (.tmp 13) .skip (.seq
  (.reg [(none, (.mov (.tmp 1), .some 18)), (none, (.len .false (.tmp 18), .some 19)), (none, (.mov (.tmp 0), .some 20)), (none, (.call (.func 174) [.tmp 20], .some 21)), (none, (.bin .gtr (.tmp 19) (.tmp 21), .some 22)), (none, (.mov (.tmp 22), .some 17))] []) (.cond (.tmp 17)
  (.reg [(none, (.mov (.tmp 0), .some 23)), (none, (.call (.func 126) [.tmp 23, .const (.int .i64 2)], .some 24))] [])
  (.reg [(none, (.mov (.tmp 0), .some 4)), (none, (.mov (.tmp 0), .some 5)), (none, (.nilc (.tmp 5), .some 6)), (none, (.fadr 1 (.tmp 6), .some 7)), (none, (.load none (.tmp 7), .some 8)), (none, (.mov (.tmp 1), .some 9)), (none, (.app 1 1 (.tmp 8) (.tmp 9), .some 10)), (none, (.nilc (.tmp 4), .some 11)), (none, (.fadr 1 (.tmp 11), .some 12)), (none, (.store 1 (.tmp 12) (.tmp 10), none))] [])))))
theorem b140 : Try.f140.body.bind (compC Try.prog) = some c140 := by kernel_rfl
theorem r140 : compR Try.prog Try.f140 = .some [] := by kernel_rfl
theorem n140 : (Try.f140.name == "runtime.NumGoroutine") = false := by kernel_rfl
def c143 : C := .seq
  (.reg [(none, (.mov (.const (.bool .false)), .some 2))] []) (.seq
  (.reg [(none, (.mov (.tmp 0), .some 3)), (none, (.bin .geq (.tmp 3) (.const (.int .u64 1)), .some 4)), (none, (.mov (.tmp 4), .some 5)), (.some (5, .true), (.mov (.tmp 0), .some 6)), (.some (5, .true), (.bin .lss (.tmp 6) (.const (.int .u64 4611686018427387904)), .some 7)), (none, (.pick (.tmp 5) (.tmp 7) (.const (.bool .false)), .some 8)), (none, (.mov (.tmp 8), .some 2))] []) .ret)
theorem b143 : Try.f143.body.bind (compC Try.prog) = some c143 := by kernel_rfl
theorem r143 : compR Try.prog Try.f143 = .some [.tmp 2] := by kernel_rfl
theorem n143 : (Try.f143.name == "runtime.NumGoroutine") = false := by kernel_rfl
def c145 : C := .seq
  (.reg [(none, (.mov (.const (.bool .false)), .some 2))] []) (.seq
  (.reg [(none, (.mov (.tmp 0), .some 3)), (none, (.bin .eql (.tmp 3) (.const (.int .i64 1)), .some 4)), (none, (.mov (.tmp 4), .some 2))] []) .ret)
theorem b145 : Try.f145.body.bind (compC Try.prog) = some c145 := by kernel_rfl
theorem r145 : compR Try.prog Try.f145 = .some [.tmp 2] := by kernel_rfl
theorem n145 : (Try.f145.name == "runtime.NumGoroutine") = false := by kernel_rfl
def c148 : C := .seq
  (.reg [(none, (.mov (.const (.int .u32 0)), .some 2))] []) (.seq
  (.reg [(none, (.mov (.tmp 0), .some 3)), (none, (.call (.func 179) [.const (.int .u32 4294967295), .tmp 3], .some 4)), (none, (.bin .sub (.const (.int .u32 4294967295)) (.tmp 4), .some 5)), (none, (.mov (.tmp 5), .some 2))] []) .ret)
theorem b148 : Try.f148.body.bind (compC Try.prog) = some c148 := by kernel_rfl
theorem r148 : compR Try.prog Try.f148 = .some [.tmp 2] := by kernel_rfl
theorem n148 : (Try.f148.name == "runtime.NumGoroutine") = false := by kernel_rfl
def c152 : C := .seq
  (.reg [(none, (.mov (.const (.int .u64 0)), .some 4))] []) (.seq
  (.reg [(none, (.mov (.const (.int .u64 0)), .some 5))] []) (.seq (.seq
  (.reg [(none, (.mov (.tmp 0), .some 8)), (none, (.mov (.tmp 1), .some 9)), (none, (.mx .true (.tmp 9) (.const (.int .i64 0)), .some 10)), (none, (.mx .false (.tmp 10) (.const (.int .i64 8)), .some 11)), (none, (.call (.func 178) [.tmp 8, .tmp 11], .some 12)), (none, (.len .false (.tmp 12), .some 13)), (none, (.mov (.const (.int .i64 0)), .some 14))] []) (.block 0 (.loop (.seq
  (.reg [(none, (.bin .lss (.tmp 14) (.tmp 13), .some 15))] []) (.seq (.cond (.tmp 15) .skip (.exit 0)) (.seq (.block 1 (.seq
  (.reg [(none, (.mov (.tmp 14), .some 16)), (none, (.iadr 1 (.tmp 12) (.tmp 14), .some 17)), (none, (.load none (.tmp 17), .some 18)), (none, (.mov (.tmp 16), .some 6)), (none, (.mov (.tmp 18), .some 7))] [])
  (.reg [(none, (.mov (.tmp 5), .some 19)), (none, (.mov (.tmp 7), .some 20)), (none, (.cvt .u64 (.tmp 20), .some 21)), (none, (.mov (.tmp 6), .some 22)), (none, (.bin .mul (.const (.int .i64 8)) (.tmp 22), .some 23)), (none, (.bin .shl (.tmp 21) (.tmp 23), .some 24)), (none, (.bin .or (.tmp 19) (.tmp 24), .some 25)), (none, (.mov (.tmp 25), .some 5))] [])))
  (.reg [(none, (.bin .add (.tmp 14) (.const (.int .i64 1)), .some 26)), (none, (.mov (.tmp 26), .some 14))] []))))))) (.seq
  (.reg [(none, (.mov (.tmp 5), .some 27)), (none, (.mov (.tmp 27), .some 4))] []) .ret)))
theorem b152 : Try.f152.body.bind (compC Try.prog) = some c152 := by kernel_rfl
theorem r152 : compR Try.prog Try.f152 = .some [.tmp 4] := by kernel_rfl
theorem n152 : (Try.f152.name == "runtime.NumGoroutine") = false := by kernel_rfl
def c162 : C := .seq
  (.reg [(none, (.mov (.const (.slice none 0 0)), .some 4))] []) (.seq
  (.reg [(none, (.mov (.const (.slice none 0 0)), .some 5))] []) (.seq (.seq
  (.reg [(none, (.mov (.tmp 1), .some 6)), (none, (.mx .true (.tmp 6) (.const (.int .i64 0)), .some 7)), (none, (.mx .false (.tmp 7) (.const (.int .i64 8)), .some 8)), (none, (.mov (.const (.int .i64 0)), .some 9))] []) (.block 0 (.loop (.seq
  (.reg [(none, (.bin .lss (.tmp 9) (.tmp 8), .some 10))] []) (.seq (.cond (.tmp 10) .skip (.exit 0)) (.seq (.block 1 (.seq
  (.reg [(none, (.mov (.tmp 5), .some 11)), (none, (.mov (.tmp 0), .some 12)), (none, (.bin .rem (.tmp 12) (.const (.int .u64 256)), .some 13)), (none, (.cvt .u8 (.tmp 13), .some 14)), (none, (.bsl 1 [.tmp 14], .some 15)), (none, (.app 1 1 (.tmp 11) (.tmp 15), .some 16)), (none, (.mov (.tmp 16), .some 5))] [])
  (.reg [(none, (.mov (.tmp 0), .some 17)), (none, (.bin .quo (.tmp 17) (.const (.int .u64 256)), .some 18)), (none, (.mov (.tmp 18), .some 0))] [])))
  (.reg [(none, (.bin .add (.tmp 9) (.const (.int .i64 1)), .some 19)), (none, (.mov (.tmp 19), .some 9))] []))))))) (.seq
  (.reg [(none, (.mov (.tmp 5), .some 20)), (none, (.mov (.tmp 20), .some 4))] []) .ret)))
theorem b162 : Try.f162.body.bind (compC Try.prog) = some c162 := by kernel_rfl
theorem r162 : compR Try.prog Try.f162 = .some [.tmp 4] := by kernel_rfl
theorem n162 : (Try.f162.name == "runtime.NumGoroutine") = false := by kernel_rfl
def c174 : C := .seq
  (.reg [(none, (.mov (.const (.int .i64 0)), .some 2))] []) (.seq (.seq
  (.reg [(none, (.mov (.tmp 0), .some 3)), (none, (.eqp .false (.tmp 3) (.const (.pointer none)), .some 4))] []) (.cond (.tmp 4) (.seq
  (.reg [(none, (.mov (.const (.int .i64 0)), .some 2))] []) .ret) .skip)) (.seq
  (.reg [(none, (.mov (.tmp 0), .some 5)), (none, (.nilc (.tmp 5), .some 6)), (none, (.fadr 0 (.tmp 6), .some 7)), (none, (.load none (.tmp 7), .some 8)), (none, (.mov (.tmp 0), .some 9)), (none, (.nilc (.tmp 9), .some 10)), (none, (.fadr 1 (.tmp 10), .some 11)), (none, (.load none (.tmp 11), .some 12)), (none, (.len .false (.tmp 12), .some 13)), (none, (.bin .sub (.tmp 8) (.tmp 13), .some 14)), (none, (.mov (.tmp 14), .some 2))] [(3, 7)]) .ret))
theorem b174 : Try.f174.body.bind (compC Try.prog) = some c174 := by kernel_rfl
theorem r174 : compR Try.prog Try.f174 = .some [.tmp 2] := by kernel_rfl
theorem n174 : (Try.f174.name == "runtime.NumGoroutine") = false := by kernel_rfl
def c177 : C := .seq
  (.reg [(none, (.mov (.const (.int .u32 0)), .some 0))] []) (.seq
  (.reg [(none, (.mov (.const (.int .u32 4294967295)), .some 0))] []) .ret)
theorem b177 : Try.f177.body.bind (compC Try.prog) = some c177 := by kernel_rfl
theorem r177 : compR Try.prog Try.f177 = .some [.tmp 0] := by kernel_rfl
theorem n177 : (Try.f177.name == "runtime.NumGoroutine") = false := by kernel_rfl
def c188 : C := .seq
  (.reg [(none, (.new [.int .u32 0, .int .u32 0, .int .u32 0, .int .u32 0, .int .u32 0, .int .u32 0, .int .u32 0, .int .u32 0, .int .u32 0, .int .u32 0, .int .u32 0, .int .u32 0, .int .u32 0, .int .u32 0, .int .u32 0, .int .u32 0], .some 0))] []) (.seq
  (.reg [(none, (.new [.int .u32 0, .int .u32 0, .int .u32 0, .int .u32 0, .int .u32 0, .int .u32 0, .int .u32 0, .int .u32 0, .int .u32 0, .int .u32 0, .int .u32 0, .int .u32 0, .int .u32 0, .int .u32 0, .int .u32 0, .int .u32 0], .some 1))] []) (.seq (.seq
  (.reg [(none, (.mov (.const (.int .i64 0)), .some 4))] []) (.block 0 (.loop (.seq
  (.reg [(none, (.bin .lss (.tmp 4) (.const (.int .i64 16)), .some 5))] []) (.seq (.cond (.tmp 5) .skip (.exit 0)) (.seq (.block 1 (.seq
  (.reg [(none, (.mov (.tmp 4), .some 6)), (none, (.mov (.tmp 6), .some 2))] []) (.seq
  (.reg [(none, (.mov (.tmp 2), .some 7)), (none, (.cvt .u32 (.tmp 7), .some 8)), (none, (.mov (.tmp 8), .some 3))] []) (.seq (.seq
  (.reg [(none, (.mov (.const (.int .i64 0)), .some 9))] []) (.block 2 (.loop (.seq
  (.reg [(none, (.bin .lss (.tmp 9) (.const (.int .i64 4)), .some 10))] []) (.seq (.cond (.tmp 10) .skip (.exit 2)) (.seq (.block 3
  (.reg [(none, (.mov (.tmp 3), .some 11)), (none, (.call (.func 196) [.tmp 11], .some 12)), (none, (.mov (.tmp 12), .some 3))] []))
  (.reg [(none, (.bin .add (.tmp 9) (.const (.int .i64 1)), .some 13)), (none, (.mov (.tmp 13), .some 9))] [])))))))
  (.reg [(none, (.mov (.tmp 2), .some 14)), (none, (.mov (.tmp 3), .some 15)), (none, (.aadr 16 1 (.tmp 1) (.tmp 14), .some 16)), (none, (.store 1 (.tmp 16) (.tmp 15), none))] [])))))
  (.reg [(none, (.bin .add (.tmp 4) (.const (.int .i64 1)), .some 17)), (none, (.mov (.tmp 17), .some 4))] []))))))) (.seq
  (.reg [(none, (.load (.some 16) (.tmp 1), .some 18)), (none, (.store 16 (.tmp 0) (.tmp 18), none))] []) .ret)))
theorem b188 : Try.f188.body.bind (compC Try.prog) = some c188 := by kernel_rfl
theorem r188 : compR Try.prog Try.f188 = .some [.cell 0 (.some 16)] := by kernel_rfl
theorem n188 : (Try.f188.name == "runtime.NumGoroutine") = false := by kernel_rfl
end Go.Proofs.Ytkhnfleejgfhgaa
