/-
  The codes of the seat's functions over abstract values, each shown to be its function's own (by program: wip/tools/codes.py).
-/
import Derived.Test.YtkhnfleejgfhgaaA2
import Derived.Test.YtkhnfleejgfhgaaProg
import Derived.KernelRfl
namespace Go.Proofs.Ytkhnfleejgfhgaa
def c8 : C := .seq
  (.reg [(none, (.mov (.const (.bool .false)), .some 6))] []) (.seq (.seq
  (.reg [(none, (.mov (.tmp 0), .some 13)), (none, (.len .false (.tmp 13), .some 14)), (none, (.bin .gtr (.tmp 14) (.const (.int .i64 300)), .some 15))] []) (.cond (.tmp 15) (.seq
  (.reg [(none, (.call (.func 20) [], .some 16)), (none, (.mov (.tmp 16), .some 6))] []) .ret) .skip)) (.seq
  (.reg [(none, (.mov (.tmp 0), .some 17)), (none, (.call (.func 44) [.tmp 17], .some 18)), (none, (.mov (.tmp 18), .some 7))] []) (.seq
  (.reg [(none, (.mov (.tmp 7), .some 20)), (none, (.mov (.tmp 1), .some 21)), (none, (.mov (.tmp 2), .some 22)), (none, (.call (.func 51) [.tmp 20, .tmp 21, .tmp 22], .some 23)), (none, (.mov (.tmp 23), .some 19)), (none, (.ext (.tmp 19) 0, .some 24)), (none, (.ext (.tmp 19) 1, .some 25)), (none, (.new [.slice none 0 0, .slice none 0 0], .some 8)), (none, (.store 2 (.tmp 8) (.tmp 24), none)), (none, (.mov (.tmp 25), .some 9))] []) (.seq
  (.reg [(none, (.mov (.tmp 0), .some 27)), (none, (.build [.slice none 0 0, .int .i64 0, .int .i64 0, .int .i64 0] [(0, (1, .tmp 27))], .some 28)), (none, (.mov (.tmp 1), .some 29)), (none, (.mov (.tmp 2), .some 30)), (none, (.call (.func 52) [.tmp 28, .tmp 29, .tmp 30], .some 31)), (none, (.mov (.tmp 31), .some 26)), (none, (.ext (.tmp 26) 0, .some 32)), (none, (.ext (.tmp 26) 1, .some 33)), (none, (.ext (.tmp 26) 2, .some 34)), (none, (.new [.slice none 0 0, .int .i64 0, .int .i64 0, .int .i64 0], .some 10)), (none, (.store 4 (.tmp 10) (.tmp 32), none)), (none, (.mov (.tmp 33), .some 11)), (none, (.mov (.tmp 34), .some 12))] []) (.seq
  (.reg [(none, (.load (.some 2) (.tmp 8), .some 35)), (none, (.mov (.tmp 11), .some 36)), (none, (.build [.slice none 0 0, .slice none 0 0] [(0, (1, .tmp 36))], .some 37)), (none, (.call (.func 27) [.tmp 35, .tmp 37], .some 38)), (none, (.mov (.tmp 38), .some 39)), (.some (39, .true), (.mov (.tmp 9), .some 40)), (.some (39, .true), (.mov (.tmp 12), .some 41)), (.some (39, .true), (.bin .eql (.tmp 40) (.tmp 41), .some 42)), (none, (.pick (.tmp 39) (.tmp 42) (.const (.bool .false)), .some 43)), (none, (.mov (.tmp 43), .some 44)), (.some (44, .true), (.mov (.tmp 7), .some 45)), (.some (44, .true), (.call (.func 48) [.tmp 45], .some 46)), (.some (44, .true), (.fadr 2 (.tmp 10), .some 47)), (.some (44, .true), (.load (.some 2) (.tmp 47), .some 48)), (.some (44, .true), (.eqa .false 2 (.tmp 46) (.tmp 48), .some 49)), (none, (.pick (.tmp 44) (.tmp 49) (.const (.bool .false)), .some 50)), (none, (.mov (.tmp 50), .some 51)), (.some (51, .true), (.fadr 2 (.tmp 10), .some 52)), (.some (51, .true), (.fadr 0 (.tmp 52), .some 53)), (.some (51, .true), (.load none (.tmp 53), .some 54)), (.some (51, .true), (.bin .neq (.tmp 54) (.const (.int .i64 0)), .some 55)), (.some (51, .true), (.mov (.tmp 55), .some 56)), (.some (56, .false), (.mov (.tmp 7), .some 57)), (.some (56, .false), (.call (.func 49) [.tmp 57], .some 58)), (.some (56, .false), (.fadr 1 (.tmp 10), .some 59)), (.some (56, .false), (.load none (.tmp 59), .some 60)), (.some (56, .false), (.bin .eql (.tmp 58) (.tmp 60), .some 61)), (.some (51, .true), (.pick (.tmp 56) (.const (.bool .true)) (.tmp 61), .some 62)), (none, (.pick (.tmp 51) (.tmp 62) (.const (.bool .false)), .some 63)), (none, (.mov (.tmp 63), .some 64)), (.some (64, .true), (.call (.func 20) [], .some 65)), (none, (.pick (.tmp 64) (.tmp 65) (.const (.bool .false)), .some 66)), (none, (.mov (.tmp 66), .some 6))] [(11, 13), (23, 25)]) .ret)))))
theorem b8 : Try.f8.body.bind (compC Try.prog) = some c8 := by kernel_rfl
theorem r8 : compR Try.prog Try.f8 = .some [.tmp 6] := by kernel_rfl
theorem n8 : (Try.f8.name == "runtime.NumGoroutine") = false := by kernel_rfl
def c15 : C := .seq
  (.reg [(none, (.box (.tmp 1), .some 4)), (none, (.mov (.const (.bool .false)), .some 6))] []) (.seq (.seq
  (.reg [(none, (.load (.some 2) (.tmp 4), .some 13)), (none, (.call (.func 28) [.tmp 13], .some 14)), (none, (.mov (.tmp 14), .some 15)), (.some (15, .false), (.mov (.tmp 2), .some 16)), (.some (15, .false), (.len .false (.tmp 16), .some 17)), (.some (15, .false), (.bin .gtr (.tmp 17) (.const (.int .i64 300)), .some 18)), (none, (.pick (.tmp 15) (.const (.bool .true)) (.tmp 18), .some 19))] []) (.cond (.tmp 19) (.seq
  (.reg [(none, (.call (.func 20) [], .some 20)), (none, (.mov (.tmp 20), .some 6))] []) .ret) .skip)) (.seq
  (.reg [(none, (.call (.func 53) [.const (.int .i64 4000)], .some 21)), (none, (.mov (.tmp 21), .some 7))] []) (.seq
  (.reg [(none, (.mov (.tmp 7), .some 22)), (none, (.mov (.tmp 0), .some 23)), (none, (.load (.some 2) (.tmp 4), .some 24)), (none, (.call (.func 80) [.tmp 22, .tmp 23, .tmp 24], .some 25))] []) (.seq
  (.reg [(none, (.mov (.tmp 7), .some 27)), (none, (.call (.func 55) [.tmp 27], .some 28)), (none, (.mov (.tmp 28), .some 26)), (none, (.ext (.tmp 26) 0, .some 29)), (none, (.ext (.tmp 26) 1, .some 30)), (none, (.mov (.tmp 29), .some 8)), (none, (.mov (.tmp 30), .some 9))] []) (.seq (.seq
  (.reg [(none, (.mov (.tmp 0), .some 31)), (none, (.load (.some 2) (.tmp 4), .some 32)), (none, (.call (.func 81) [.tmp 31, .tmp 32], .some 33)), (none, (.mov (.tmp 0), .some 34)), (none, (.load (.some 2) (.tmp 4), .some 35)), (none, (.call (.func 82) [.tmp 34, .tmp 35], .some 36)), (none, (.eqb .true (.tmp 33) (.tmp 36), .some 37))] [(1, 4), (2, 4)]) (.cond (.tmp 37) (.seq
  (.reg [(none, (.mov (.const (.bool .false)), .some 6))] []) .ret) .skip)) (.seq (.seq
  (.reg [(none, (.mov (.tmp 0), .some 38)), (none, (.load (.some 2) (.tmp 4), .some 39)), (none, (.call (.func 82) [.tmp 38, .tmp 39], .some 40)), (none, (.un .not (.tmp 40), .some 41))] []) (.cond (.tmp 41) (.seq
  (.reg [(none, (.mov (.tmp 9), .some 42)), (none, (.bin .eql (.tmp 42) (.const (.int .i64 3)), .some 43)), (none, (.mov (.tmp 43), .some 44)), (.some (44, .true), (.mov (.tmp 8), .some 45)), (.some (44, .true), (.len .false (.tmp 45), .some 46)), (.some (44, .true), (.bin .eql (.tmp 46) (.const (.int .i64 0)), .some 47)), (none, (.pick (.tmp 44) (.tmp 47) (.const (.bool .false)), .some 48)), (none, (.mov (.tmp 48), .some 49)), (.some (49, .true), (.mov (.tmp 0), .some 50)), (.some (49, .true), (.load (.some 2) (.tmp 4), .some 51)), (.some (49, .true), (.call (.func 83) [.tmp 50, .tmp 51], .some 52)), (.some (49, .true), (.bin .eql (.tmp 52) (.const (.int .i64 0)), .some 53)), (none, (.pick (.tmp 49) (.tmp 53) (.const (.bool .false)), .some 54)), (none, (.mov (.tmp 54), .some 55)), (.some (55, .true), (.call (.func 20) [], .some 56)), (none, (.pick (.tmp 55) (.tmp 56) (.const (.bool .false)), .some 57)), (none, (.mov (.tmp 57), .some 6))] []) .ret) .skip)) (.seq
  (.reg [(none, (.bsl 1 [], .some 58)), (none, (.mov (.tmp 8), .some 59)), (none, (.app 1 1 (.tmp 58) (.tmp 59), .some 60)), (none, (.mov (.tmp 2), .some 61)), (none, (.app 1 1 (.tmp 60) (.tmp 61), .some 62)), (none, (.call (.func 44) [.tmp 62], .some 63)), (none, (.mov (.tmp 63), .some 10))] []) (.seq
  (.reg [(none, (.mov (.tmp 10), .some 65)), (none, (.mov (.tmp 0), .some 66)), (none, (.call (.func 51) [.tmp 65, .tmp 66, .const (.int .i64 500)], .some 67)), (none, (.mov (.tmp 67), .some 64)), (none, (.ext (.tmp 64) 0, .some 68)), (none, (.ext (.tmp 64) 1, .some 69)), (none, (.new [.slice none 0 0, .slice none 0 0], .some 11)), (none, (.store 2 (.tmp 11) (.tmp 68), none)), (none, (.mov (.tmp 69), .some 12))] []) (.seq
  (.reg [(none, (.mov (.tmp 9), .some 70)), (none, (.bin .eql (.tmp 70) (.const (.int .i64 0)), .some 71)), (none, (.mov (.tmp 71), .some 72)), (.some (72, .true), (.mov (.tmp 8), .some 73)), (.some (72, .true), (.mov (.tmp 0), .some 74)), (.some (72, .true), (.load (.some 2) (.tmp 4), .some 75)), (.some (72, .true), (.call (.func 84) [.tmp 74, .tmp 75], .some 76)), (.some (72, .true), (.call (.func 23) [.tmp 73, .tmp 76], .some 77)), (none, (.pick (.tmp 72) (.tmp 77) (.const (.bool .false)), .some 78)), (none, (.mov (.tmp 78), .some 79)), (.some (79, .true), (.mov (.tmp 0), .some 80)), (.some (79, .true), (.load (.some 2) (.tmp 4), .some 81)), (.some (79, .true), (.call (.func 83) [.tmp 80, .tmp 81], .some 82)), (.some (79, .true), (.mov (.tmp 8), .some 83)), (.some (79, .true), (.len .false (.tmp 83), .some 84)), (.some (79, .true), (.bin .eql (.tmp 82) (.tmp 84), .some 85)), (none, (.pick (.tmp 79) (.tmp 85) (.const (.bool .false)), .some 86)), (none, (.mov (.tmp 86), .some 87)), (.some (87, .true), (.mov (.tmp 10), .some 88)), (.some (87, .true), (.call (.func 57) [.tmp 88], .some 89)), (none, (.pick (.tmp 87) (.tmp 89) (.const (.bool .false)), .some 90)), (none, (.mov (.tmp 90), .some 91)), (.some (91, .true), (.mov (.tmp 10), .some 92)), (.some (91, .true), (.call (.func 49) [.tmp 92], .some 93)), (.some (91, .true), (.mov (.tmp 8), .some 94)), (.some (91, .true), (.len .false (.tmp 94), .some 95)), (.some (91, .true), (.bin .eql (.tmp 93) (.tmp 95), .some 96)), (none, (.pick (.tmp 91) (.tmp 96) (.const (.bool .false)), .some 97)), (none, (.mov (.tmp 97), .some 98)), (.some (98, .true), (.mov (.tmp 12), .some 99)), (.some (98, .true), (.fadr 1 (.tmp 4), .some 100)), (.some (98, .true), (.load none (.tmp 100), .some 101)), (.some (98, .true), (.len .false (.tmp 101), .some 102)), (.some (98, .true), (.bin .eql (.tmp 99) (.tmp 102), .some 103)), (none, (.pick (.tmp 98) (.tmp 103) (.const (.bool .false)), .some 104)), (none, (.mov (.tmp 104), .some 105)), (.some (105, .true), (.load (.some 2) (.tmp 11), .some 106)), (.some (105, .true), (.fadr 0 (.tmp 4), .some 107)), (.some (105, .true), (.load none (.tmp 107), .some 108)), (.some (105, .true), (.build [.slice none 0 0, .slice none 0 0] [(0, (1, .tmp 108))], .some 109)), (.some (105, .true), (.call (.func 27) [.tmp 106, .tmp 109], .some 110)), (none, (.pick (.tmp 105) (.tmp 110) (.const (.bool .false)), .some 111)), (none, (.mov (.tmp 111), .some 112)), (.some (112, .true), (.call (.func 20) [], .some 113)), (none, (.pick (.tmp 112) (.tmp 113) (.const (.bool .false)), .some 114)), (none, (.mov (.tmp 114), .some 6))] []) .ret)))))))))
theorem b15 : Try.f15.body.bind (compC Try.prog) = some c15 := by kernel_rfl
theorem r15 : compR Try.prog Try.f15 = .some [.tmp 6] := by kernel_rfl
theorem n15 : (Try.f15.name == "runtime.NumGoroutine") = false := by kernel_rfl
def c40 : C := .seq
  (.reg [(none, (.mov (.const (.bool .false)), .some 0))] []) (.seq
  (.reg [(none, (.bsl 1 [.const (.int .u64 9), .const (.int .u64 3)], .some 5)), (none, (.build [.int .u64 0, .slice none 0 0] [(1, (1, .tmp 5))], .some 6)), (none, (.new [.int .u64 0, .slice none 0 0], .some 1)), (none, (.store 2 (.tmp 1) (.tmp 6), none))] []) (.seq
  (.reg [(none, (.call (.func 53) [.const (.int .i64 9)], .some 7)), (none, (.mov (.tmp 7), .some 2))] []) (.seq
  (.reg [(none, (.mov (.tmp 2), .some 8)), (none, (.load (.some 2) (.tmp 1), .some 9)), (none, (.bsl 2 [.tmp 9], .some 10)), (none, (.call (.func 54) [.tmp 8, .const (.int .u64 10), .tmp 10], .some 11))] []) (.seq
  (.reg [(none, (.mov (.tmp 2), .some 13)), (none, (.call (.func 55) [.tmp 13], .some 14)), (none, (.mov (.tmp 14), .some 12)), (none, (.ext (.tmp 12) 0, .some 15)), (none, (.ext (.tmp 12) 1, .some 16)), (none, (.mov (.tmp 15), .some 3)), (none, (.mov (.tmp 16), .some 4))] []) (.seq
  (.reg [(none, (.mov (.tmp 4), .some 17)), (none, (.bin .eql (.tmp 17) (.const (.int .i64 0)), .some 18)), (none, (.mov (.tmp 18), .some 19)), (.some (19, .true), (.mov (.tmp 3), .some 20)), (.some (19, .true), (.bsl 1 [.const (.int .u8 1), .const (.int .u8 0), .const (.int .u8 2), .const (.int .u8 0), .const (.int .u8 5)], .some 21)), (.some (19, .true), (.call (.func 23) [.tmp 20, .tmp 21], .some 22)), (none, (.pick (.tmp 19) (.tmp 22) (.const (.bool .false)), .some 23)), (none, (.mov (.tmp 23), .some 24)), (.some (24, .true), (.load (.some 2) (.tmp 1), .some 25)), (.some (24, .true), (.call (.func 43) [.tmp 25, .const (.int .u64 10)], .some 26)), (.some (24, .true), (.fld 1 none (.tmp 26), .some 27)), (.some (24, .true), (.bsl 1 [.const (.int .u64 10), .const (.int .u64 9), .const (.int .u64 3)], .some 28)), (.some (24, .true), (.call (.func 112) [.tmp 27, .tmp 28], .some 29)), (none, (.pick (.tmp 24) (.tmp 29) (.const (.bool .false)), .some 30)), (none, (.mov (.tmp 30), .some 0))] []) .ret)))))
theorem b40 : Try.f40.body.bind (compC Try.prog) = some c40 := by kernel_rfl
theorem r40 : compR Try.prog Try.f40 = .some [.tmp 0] := by kernel_rfl
theorem n40 : (Try.f40.name == "runtime.NumGoroutine") = false := by kernel_rfl
def c43 : C := .seq
  (.reg [(none, (.box (.tmp 0), .some 2)), (none, (.new [.int .u64 0, .slice none 0 0], .some 4))] []) (.seq
  (.reg [(none, (.mov (.tmp 1), .some 6)), (none, (.bsl 1 [.tmp 6], .some 7)), (none, (.fadr 1 (.tmp 2), .some 8)), (none, (.load none (.tmp 8), .some 9)), (none, (.app 1 8 (.tmp 7) (.tmp 9), .some 10)), (none, (.mov (.tmp 10), .some 5))] []) (.seq
  (.reg [(none, (.fadr 0 (.tmp 2), .some 11)), (none, (.load none (.tmp 11), .some 12)), (none, (.mov (.tmp 5), .some 13)), (none, (.mov (.tmp 5), .some 14)), (none, (.len .false (.tmp 14), .some 15)), (none, (.mx .false (.tmp 15) (.const (.int .i64 4)), .some 16)), (none, (.slice 1 (.tmp 13) none (.some (.tmp 16)) none, .some 17)), (none, (.build [.int .u64 0, .slice none 0 0] [(0, (1, .tmp 12)), (1, (1, .tmp 17))], .some 18)), (none, (.store 2 (.tmp 4) (.tmp 18), none))] []) .ret))
theorem b43 : Try.f43.body.bind (compC Try.prog) = some c43 := by kernel_rfl
theorem r43 : compR Try.prog Try.f43 = .some [.cell 4 (.some 2)] := by kernel_rfl
theorem n43 : (Try.f43.name == "runtime.NumGoroutine") = false := by kernel_rfl
def c50 : C := .seq
  (.reg [(none, (.mov (.const (.slice none 0 0)), .some 4))] []) (.seq
  (.reg [(none, (.mov (.tmp 1), .some 8)), (none, (.len .false (.tmp 8), .some 9)), (none, (.cvt .u8 (.tmp 9), .some 10)), (none, (.bsl 1 [.tmp 10], .some 11)), (none, (.mov (.tmp 11), .some 5))] []) (.seq (.seq
  (.reg [(none, (.mov (.const (.int .i64 0)), .some 6))] []) (.block 0 (.loop (.seq (.seq
  (.reg [(none, (.mov (.tmp 6), .some 12)), (none, (.mov (.tmp 1), .some 13)), (none, (.len .false (.tmp 13), .some 14)), (none, (.bin .lss (.tmp 12) (.tmp 14), .some 15))] []) (.cond (.tmp 15) .skip (.exit 0))) (.seq (.block 1 (.seq
  (.reg [(none, (.mov (.tmp 1), .some 18)), (none, (.mov (.tmp 6), .some 19)), (none, (.iadr 2 (.tmp 18) (.tmp 19), .some 20)), (none, (.fadr 0 (.tmp 20), .some 21)), (none, (.load none (.tmp 21), .some 22)), (none, (.mov (.tmp 22), .some 7))] []) (.seq (.seq
  (.reg [(none, (.mov (.tmp 6), .some 23)), (none, (.bin .gtr (.tmp 23) (.const (.int .i64 0)), .some 24))] []) (.cond (.tmp 24)
  (.reg [(none, (.mov (.tmp 7), .some 25)), (none, (.mov (.tmp 1), .some 26)), (none, (.mov (.tmp 6), .some 27)), (none, (.bin .sub (.tmp 27) (.const (.int .i64 1)), .some 28)), (none, (.iadr 2 (.tmp 26) (.tmp 28), .some 29)), (none, (.fadr 0 (.tmp 29), .some 30)), (none, (.load none (.tmp 30), .some 31)), (none, (.bin .sub (.tmp 25) (.tmp 31), .some 32)), (none, (.bin .sub (.tmp 32) (.const (.int .u64 1)), .some 33)), (none, (.mov (.tmp 33), .some 7))] []) .skip)) (.seq
  (.reg [(none, (.mov (.tmp 5), .some 34)), (none, (.mov (.tmp 7), .some 35)), (none, (.call (.func 110) [.tmp 35], .some 36)), (none, (.app 1 1 (.tmp 34) (.tmp 36), .some 37)), (none, (.mov (.tmp 37), .some 5))] [])
  (.reg [(none, (.mov (.tmp 5), .some 38)), (none, (.mov (.tmp 0), .some 39)), (none, (.mov (.tmp 1), .some 40)), (none, (.mov (.tmp 6), .some 41)), (none, (.iadr 2 (.tmp 40) (.tmp 41), .some 42)), (none, (.fadr 1 (.tmp 42), .some 43)), (none, (.load none (.tmp 43), .some 44)), (none, (.call (.func 125) [.tmp 39, .tmp 44], .some 45)), (none, (.app 1 1 (.tmp 38) (.tmp 45), .some 46)), (none, (.mov (.tmp 46), .some 5))] [])))))
  (.reg [(none, (.mov (.tmp 6), .some 16)), (none, (.bin .add (.tmp 16) (.const (.int .i64 1)), .some 17)), (none, (.mov (.tmp 17), .some 6))] [])))))) (.seq
  (.reg [(none, (.mov (.tmp 5), .some 47)), (none, (.mov (.tmp 47), .some 4))] []) .ret)))
theorem b50 : Try.f50.body.bind (compC Try.prog) = some c50 := by kernel_rfl
theorem r50 : compR Try.prog Try.f50 = .some [.tmp 4] := by kernel_rfl
theorem n50 : (Try.f50.name == "runtime.NumGoroutine") = false := by kernel_rfl
def c57 : C := .seq
  (.reg [(none, (.mov (.const (.bool .false)), .some 2))] []) (.seq
  (.reg [(none, (.mov (.tmp 0), .some 3)), (none, (.eqp .true (.tmp 3) (.const (.pointer none)), .some 4)), (none, (.mov (.tmp 4), .some 5)), (.some (5, .true), (.mov (.tmp 0), .some 6)), (.some (5, .true), (.nilc (.tmp 6), .some 7)), (.some (5, .true), (.fadr 2 (.tmp 7), .some 8)), (.some (5, .true), (.load (.some 2) (.tmp 8), .some 9)), (.some (5, .true), (.call (.func 102) [.tmp 9], .some 10)), (none, (.pick (.tmp 5) (.tmp 10) (.const (.bool .false)), .some 11)), (none, (.mov (.tmp 11), .some 2))] []) .ret)
theorem b57 : Try.f57.body.bind (compC Try.prog) = some c57 := by kernel_rfl
theorem r57 : compR Try.prog Try.f57 = .some [.tmp 2] := by kernel_rfl
theorem n57 : (Try.f57.name == "runtime.NumGoroutine") = false := by kernel_rfl
def c80 : C := .seq
  (.reg [(none, (.box (.tmp 2), .some 5))] []) (.seq (.seq
  (.reg [(none, (.mov (.tmp 1), .some 6)), (none, (.load (.some 2) (.tmp 5), .some 7)), (none, (.call (.func 81) [.tmp 6, .tmp 7], .some 8)), (none, (.un .not (.tmp 8), .some 9))] []) (.cond (.tmp 9) (.seq
  (.reg [(none, (.mov (.tmp 0), .some 10)), (none, (.call (.func 126) [.tmp 10, .const (.int .i64 3)], .some 11))] []) .ret) .skip)) (.seq
  (.reg [(none, (.mov (.tmp 0), .some 12)), (none, (.mov (.tmp 1), .some 13)), (none, (.fadr 0 (.tmp 5), .some 14)), (none, (.load none (.tmp 14), .some 15)), (none, (.call (.func 54) [.tmp 12, .tmp 13, .tmp 15], .some 16))] [])
  (.reg [(none, (.mov (.tmp 0), .some 17)), (none, (.fadr 1 (.tmp 5), .some 18)), (none, (.load none (.tmp 18), .some 19)), (none, (.len .false (.tmp 19), .some 20)), (none, (.cvt .u64 (.tmp 20), .some 21)), (none, (.call (.func 127) [.tmp 17, .tmp 21], .some 22))] [])))
theorem b80 : Try.f80.body.bind (compC Try.prog) = some c80 := by kernel_rfl
theorem r80 : compR Try.prog Try.f80 = .some [] := by kernel_rfl
theorem n80 : (Try.f80.name == "runtime.NumGoroutine") = false := by kernel_rfl
def c82 : C := .seq
  (.reg [(none, (.box (.tmp 1), .some 3)), (none, (.mov (.const (.bool .false)), .some 4))] []) (.seq
  (.reg [(none, (.mov (.tmp 0), .some 5)), (none, (.fadr 0 (.tmp 3), .some 6)), (none, (.load none (.tmp 6), .some 7)), (none, (.call (.func 39) [.tmp 5, .tmp 7], .some 8)), (none, (.mov (.tmp 8), .some 9)), (.some (9, .true), (.fadr 1 (.tmp 3), .some 10)), (.some (9, .true), (.load none (.tmp 10), .some 11)), (.some (9, .true), (.len .false (.tmp 11), .some 12)), (.some (9, .true), (.bin .leq (.tmp 12) (.const (.int .i64 1048576)), .some 13)), (none, (.pick (.tmp 9) (.tmp 13) (.const (.bool .false)), .some 14)), (none, (.mov (.tmp 14), .some 4))] []) .ret)
theorem b82 : Try.f82.body.bind (compC Try.prog) = some c82 := by kernel_rfl
theorem r82 : compR Try.prog Try.f82 = .some [.tmp 4] := by kernel_rfl
theorem n82 : (Try.f82.name == "runtime.NumGoroutine") = false := by kernel_rfl
def c112 : C := .seq
  (.reg [(none, (.mov (.const (.bool .false)), .some 4))] []) (.seq (.seq
  (.reg [(none, (.mov (.tmp 0), .some 6)), (none, (.len .false (.tmp 6), .some 7)), (none, (.mov (.tmp 1), .some 8)), (none, (.len .false (.tmp 8), .some 9)), (none, (.bin .neq (.tmp 7) (.tmp 9), .some 10))] []) (.cond (.tmp 10) (.seq
  (.reg [(none, (.mov (.const (.bool .false)), .some 4))] []) .ret) .skip)) (.seq (.seq
  (.reg [(none, (.mov (.const (.int .i64 0)), .some 5))] []) (.block 0 (.loop (.seq (.seq
  (.reg [(none, (.mov (.tmp 5), .some 11)), (none, (.mov (.tmp 0), .some 12)), (none, (.len .false (.tmp 12), .some 13)), (none, (.bin .lss (.tmp 11) (.tmp 13), .some 14))] []) (.cond (.tmp 14) .skip (.exit 0))) (.seq (.block 1 (.seq
  (.reg [(none, (.mov (.tmp 0), .some 17)), (none, (.mov (.tmp 5), .some 18)), (none, (.iadr 1 (.tmp 17) (.tmp 18), .some 19)), (none, (.load none (.tmp 19), .some 20)), (none, (.mov (.tmp 1), .some 21)), (none, (.mov (.tmp 5), .some 22)), (none, (.iadr 1 (.tmp 21) (.tmp 22), .some 23)), (none, (.load none (.tmp 23), .some 24)), (none, (.bin .neq (.tmp 20) (.tmp 24), .some 25))] [(3, 7)]) (.cond (.tmp 25) (.seq
  (.reg [(none, (.mov (.const (.bool .false)), .some 4))] []) .ret) .skip)))
  (.reg [(none, (.mov (.tmp 5), .some 15)), (none, (.bin .add (.tmp 15) (.const (.int .i64 1)), .some 16)), (none, (.mov (.tmp 16), .some 5))] [])))))) (.seq
  (.reg [(none, (.mov (.const (.bool .true)), .some 4))] []) .ret)))
theorem b112 : Try.f112.body.bind (compC Try.prog) = some c112 := by kernel_rfl
theorem r112 : compR Try.prog Try.f112 = .some [.tmp 4] := by kernel_rfl
theorem n112 : (Try.f112.name == "runtime.NumGoroutine") = false := by kernel_rfl
def c113 : C := .seq
  (.reg [(none, (.mov (.const (.bool .false)), .some 4))] []) (.seq (.seq
  (.reg [(none, (.mov (.tmp 0), .some 6)), (none, (.len .false (.tmp 6), .some 7)), (none, (.mov (.const (.int .i64 0)), .some 8))] []) (.block 0 (.loop (.seq
  (.reg [(none, (.bin .lss (.tmp 8) (.tmp 7), .some 9))] []) (.seq (.cond (.tmp 9) .skip (.exit 0)) (.seq (.block 1 (.seq
  (.reg [(none, (.mov (.tmp 8), .some 10)), (none, (.mov (.tmp 10), .some 5))] []) (.seq
  (.reg [(none, (.mov (.tmp 5), .some 11)), (none, (.bin .gtr (.tmp 11) (.const (.int .i64 0)), .some 12)), (none, (.mov (.tmp 12), .some 13)), (.some (13, .true), (.mov (.tmp 1), .some 14)), (.some (13, .true), (.mov (.tmp 0), .some 15)), (.some (13, .true), (.mov (.tmp 5), .some 16)), (.some (13, .true), (.iadr 2 (.tmp 15) (.tmp 16), .some 17)), (.some (13, .true), (.load (.some 2) (.tmp 17), .some 18)), (.some (13, .true), (.call (.tmp 14) [.tmp 18], .some 19)), (.some (13, .true), (.mov (.tmp 1), .some 20)), (.some (13, .true), (.mov (.tmp 0), .some 21)), (.some (13, .true), (.mov (.tmp 5), .some 22)), (.some (13, .true), (.bin .sub (.tmp 22) (.const (.int .i64 1)), .some 23)), (.some (13, .true), (.iadr 2 (.tmp 21) (.tmp 23), .some 24)), (.some (13, .true), (.load (.some 2) (.tmp 24), .some 25)), (.some (13, .true), (.call (.tmp 20) [.tmp 25], .some 26)), (.some (13, .true), (.bin .leq (.tmp 19) (.tmp 26), .some 27)), (none, (.pick (.tmp 13) (.tmp 27) (.const (.bool .false)), .some 28))] [(7, 14), (8, 14)]) (.cond (.tmp 28) (.seq
  (.reg [(none, (.mov (.const (.bool .false)), .some 4))] []) .ret) .skip))))
  (.reg [(none, (.bin .add (.tmp 8) (.const (.int .i64 1)), .some 29)), (none, (.mov (.tmp 29), .some 8))] []))))))) (.seq
  (.reg [(none, (.mov (.const (.bool .true)), .some 4))] []) .ret))
theorem b113 : Try.f113.body.bind (compC Try.prog) = some c113 := by kernel_rfl
theorem r113 : compR Try.prog Try.f113 = .some [.tmp 4] := by kernel_rfl
theorem n113 : (Try.f113.name == "runtime.NumGoroutine") = false := by kernel_rfl
def c116 : C := .seq
  (.reg [(none, (.mov (.const (.bool .false)), .some 4))] []) (.seq
  (.reg [(none, (.mov (.tmp 0), .some 8)), (none, (.mov (.tmp 1), .some 9)), (none, (.call (.func 168) [.tmp 8, .tmp 9], .some 10)), (none, (.mov (.tmp 10), .some 7)), (none, (.ext (.tmp 7) 0, .some 11)), (none, (.ext (.tmp 7) 1, .some 12)), (none, (.mov (.tmp 11), .some 5)), (none, (.mov (.tmp 12), .some 6))] []) (.seq
  (.reg [(none, (.mov (.tmp 6), .some 13)), (none, (.mov (.tmp 13), .some 4))] []) .ret))
theorem b116 : Try.f116.body.bind (compC Try.prog) = some c116 := by kernel_rfl
theorem r116 : compR Try.prog Try.f116 = .some [.tmp 4] := by kernel_rfl
theorem n116 : (Try.f116.name == "runtime.NumGoroutine") = false := by kernel_rfl
def c125 : C := .seq
  (.reg [(none, (.mov (.const (.slice none 0 0)), .some 4))] []) (.seq
  (.reg [(none, (.mov (.tmp 1), .some 8)), (none, (.len .false (.tmp 8), .some 9)), (none, (.cvt .u64 (.tmp 9), .some 10)), (none, (.call (.func 110) [.tmp 10], .some 11)), (none, (.mov (.tmp 11), .some 5))] []) (.seq
  (.reg [(none, (.mov (.tmp 0), .some 12)), (none, (.mov (.tmp 1), .some 13)), (none, (.call (.func 171) [.tmp 12, .tmp 13], .some 14)), (none, (.mov (.tmp 14), .some 6))] []) (.seq (.seq
  (.reg [(none, (.mov (.const (.int .i64 0)), .some 7))] []) (.block 0 (.loop (.seq (.seq
  (.reg [(none, (.mov (.tmp 7), .some 15)), (none, (.mov (.tmp 6), .some 16)), (none, (.len .false (.tmp 16), .some 17)), (none, (.bin .lss (.tmp 15) (.tmp 17), .some 18))] []) (.cond (.tmp 18) .skip (.exit 0))) (.seq (.block 1
  (.reg [(none, (.mov (.tmp 5), .some 21)), (none, (.mov (.tmp 6), .some 22)), (none, (.mov (.tmp 7), .some 23)), (none, (.iadr 1 (.tmp 22) (.tmp 23), .some 24)), (none, (.load none (.tmp 24), .some 25)), (none, (.call (.func 110) [.tmp 25], .some 26)), (none, (.app 1 1 (.tmp 21) (.tmp 26), .some 27)), (none, (.mov (.tmp 27), .some 5))] []))
  (.reg [(none, (.mov (.tmp 7), .some 19)), (none, (.bin .add (.tmp 19) (.const (.int .i64 1)), .some 20)), (none, (.mov (.tmp 20), .some 7))] [])))))) (.seq
  (.reg [(none, (.mov (.tmp 5), .some 28)), (none, (.mov (.tmp 28), .some 4))] []) .ret))))
theorem b125 : Try.f125.body.bind (compC Try.prog) = some c125 := by kernel_rfl
theorem r125 : compR Try.prog Try.f125 = .some [.tmp 4] := by kernel_rfl
theorem n125 : (Try.f125.name == "runtime.NumGoroutine") = false := by kernel_rfl
def c126 : C := .seq
  (.reg [(none, (.mov (.tmp 0), .some 4)), (none, (.call (.func 130) [.tmp 4], .some 5)), (none, (.bin .eql (.tmp 5) (.const (.int .i64 0)), .some 6))] []) (.cond (.tmp 6)
  (.reg [(none, (.mov (.tmp 0), .some 7)), (none, (.mov (.tmp 1), .some 8)), (none, (.nilc (.tmp 7), .some 9)), (none, (.fadr 2 (.tmp 9), .some 10)), (none, (.store 1 (.tmp 10) (.tmp 8), none))] []) .skip)
theorem b126 : Try.f126.body.bind (compC Try.prog) = some c126 := by kernel_rfl
theorem r126 : compR Try.prog Try.f126 = .some [] := by kernel_rfl
theorem n126 : (Try.f126.name == "runtime.NumGoroutine") = false := by kernel_rfl
def c127 : C := .reg [(none, (.mov (.tmp 0), .some 4)), (none, (.mov (.tmp 1), .some 5)), (none, (.call (.func 172) [.tmp 5], .some 6)), (none, (.call (.func 140) [.tmp 4, .tmp 6], .some 7))] []
theorem b127 : Try.f127.body.bind (compC Try.prog) = some c127 := by kernel_rfl
theorem r127 : compR Try.prog Try.f127 = .some [] := by kernel_rfl
theorem n127 : (Try.f127.name == "runtime.NumGoroutine") = false := by kernel_rfl
def c131 : C := .seq
  (.reg [(none, (.mov (.const (.int .i64 0)), .some 2))] []) (.seq
  (.reg [(none, (.mov (.const (.int .i64 1)), .some 3))] []) (.seq (.block 0 (.loop (.seq (.seq
  (.reg [(none, (.mov (.tmp 0), .some 4)), (none, (.bin .geq (.tmp 4) (.const (.int .u64 128)), .some 5))] []) (.cond (.tmp 5) .skip (.exit 0))) (.block 1 (.seq
  (.reg [(none, (.mov (.tmp 0), .some 6)), (none, (.bin .shr (.tmp 6) (.const (.int .u64 7)), .some 7)), (none, (.mov (.tmp 7), .some 0))] [])
  (.reg [(none, (.mov (.tmp 3), .some 8)), (none, (.bin .add (.tmp 8) (.const (.int .i64 1)), .some 9)), (none, (.mov (.tmp 9), .some 3))] [])))))) (.seq
  (.reg [(none, (.mov (.tmp 3), .some 10)), (none, (.mov (.tmp 10), .some 2))] []) .ret)))
theorem b131 : Try.f131.body.bind (compC Try.prog) = some c131 := by kernel_rfl
theorem r131 : compR Try.prog Try.f131 = .some [.tmp 2] := by kernel_rfl
theorem n131 : (Try.f131.name == "runtime.NumGoroutine") = false := by kernel_rfl
def c165 : C := .seq
  (.reg [(none, (.mov (.const (.int .u64 0)), .some 4))] []) (.seq
  (.reg [(none, (.mov (.tmp 0), .some 7)), (none, (.call (.func 49) [.tmp 7], .some 8)), (none, (.mov (.tmp 8), .some 5))] []) (.seq
  (.reg [(none, (.mov (.tmp 0), .some 9)), (none, (.call (.func 100) [.tmp 9], .some 10)), (none, (.mov (.tmp 10), .some 6))] []) (.seq (.seq
  (.reg [(none, (.mov (.tmp 6), .some 11)), (none, (.mov (.tmp 1), .some 12)), (none, (.bin .gtr (.tmp 11) (.tmp 12), .some 13))] []) (.cond (.tmp 13) (.seq
  (.reg [(none, (.mov (.tmp 0), .some 14)), (none, (.mov (.tmp 5), .some 15)), (none, (.call (.func 97) [.tmp 14, .const (.int .i64 2), .tmp 15], .some 16))] []) (.seq
  (.reg [(none, (.mov (.const (.int .u64 0)), .some 4))] []) .ret)) .skip)) (.seq
  (.reg [(none, (.mov (.tmp 6), .some 17)), (none, (.mov (.tmp 17), .some 4))] []) .ret))))
theorem b165 : Try.f165.body.bind (compC Try.prog) = some c165 := by kernel_rfl
theorem r165 : compR Try.prog Try.f165 = .some [.tmp 4] := by kernel_rfl
theorem n165 : (Try.f165.name == "runtime.NumGoroutine") = false := by kernel_rfl
def c171 : C := .seq
  (.reg [(none, (.mov (.const (.slice none 0 0)), .some 4))] []) (.seq
  (.reg [(none, (.mov (.const (.slice none 0 0)), .some 5))] []) (.seq (.seq
  (.reg [(none, (.mov (.const (.int .i64 0)), .some 6))] []) (.block 0 (.loop (.seq (.seq
  (.reg [(none, (.mov (.tmp 6), .some 8)), (none, (.mov (.tmp 1), .some 9)), (none, (.len .false (.tmp 9), .some 10)), (none, (.bin .lss (.tmp 8) (.tmp 10), .some 11))] []) (.cond (.tmp 11) .skip (.exit 0))) (.seq (.block 1 (.seq
  (.reg [(none, (.mov (.tmp 0), .some 14)), (none, (.mov (.tmp 14), .some 7))] []) (.seq (.seq
  (.reg [(none, (.mov (.tmp 6), .some 15)), (none, (.bin .gtr (.tmp 15) (.const (.int .i64 0)), .some 16))] []) (.cond (.tmp 16)
  (.reg [(none, (.mov (.tmp 1), .some 17)), (none, (.mov (.tmp 6), .some 18)), (none, (.bin .sub (.tmp 18) (.const (.int .i64 1)), .some 19)), (none, (.iadr 1 (.tmp 17) (.tmp 19), .some 20)), (none, (.load none (.tmp 20), .some 21)), (none, (.mov (.tmp 21), .some 7))] []) .skip))
  (.reg [(none, (.mov (.tmp 5), .some 22)), (none, (.mov (.tmp 7), .some 23)), (none, (.bin .sub (.tmp 23) (.const (.int .u64 1)), .some 24)), (none, (.mov (.tmp 1), .some 25)), (none, (.mov (.tmp 6), .some 26)), (none, (.iadr 1 (.tmp 25) (.tmp 26), .some 27)), (none, (.load none (.tmp 27), .some 28)), (none, (.bin .sub (.tmp 24) (.tmp 28), .some 29)), (none, (.bsl 1 [.tmp 29], .some 30)), (none, (.app 1 8 (.tmp 22) (.tmp 30), .some 31)), (none, (.mov (.tmp 31), .some 5))] []))))
  (.reg [(none, (.mov (.tmp 6), .some 12)), (none, (.bin .add (.tmp 12) (.const (.int .i64 1)), .some 13)), (none, (.mov (.tmp 13), .some 6))] [])))))) (.seq
  (.reg [(none, (.mov (.tmp 5), .some 32)), (none, (.mov (.tmp 32), .some 4))] []) .ret)))
theorem b171 : Try.f171.body.bind (compC Try.prog) = some c171 := by kernel_rfl
theorem r171 : compR Try.prog Try.f171 = .some [.tmp 4] := by kernel_rfl
theorem n171 : (Try.f171.name == "runtime.NumGoroutine") = false := by kernel_rfl
def c172 : C := .seq
  (.reg [(none, (.mov (.const (.slice none 0 0)), .some 2))] []) (.seq
  (.reg [(none, (.mov (.const (.slice none 0 0)), .some 3))] []) (.seq (.block 0 (.loop (.seq (.seq
  (.reg [(none, (.mov (.tmp 0), .some 4)), (none, (.bin .geq (.tmp 4) (.const (.int .u64 128)), .some 5))] []) (.cond (.tmp 5) .skip (.exit 0))) (.block 1 (.seq
  (.reg [(none, (.mov (.tmp 3), .some 6)), (none, (.mov (.tmp 0), .some 7)), (none, (.cvt .u8 (.tmp 7), .some 8)), (none, (.bin .or (.tmp 8) (.const (.int .u8 128)), .some 9)), (none, (.bsl 1 [.tmp 9], .some 10)), (none, (.app 1 1 (.tmp 6) (.tmp 10), .some 11)), (none, (.mov (.tmp 11), .some 3))] [])
  (.reg [(none, (.mov (.tmp 0), .some 12)), (none, (.bin .shr (.tmp 12) (.const (.int .u64 7)), .some 13)), (none, (.mov (.tmp 13), .some 0))] [])))))) (.seq
  (.reg [(none, (.mov (.tmp 3), .some 14)), (none, (.mov (.tmp 0), .some 15)), (none, (.cvt .u8 (.tmp 15), .some 16)), (none, (.bsl 1 [.tmp 16], .some 17)), (none, (.app 1 1 (.tmp 14) (.tmp 17), .some 18)), (none, (.mov (.tmp 18), .some 2))] []) .ret)))
theorem b172 : Try.f172.body.bind (compC Try.prog) = some c172 := by kernel_rfl
theorem r172 : compR Try.prog Try.f172 = .some [.tmp 2] := by kernel_rfl
theorem n172 : (Try.f172.name == "runtime.NumGoroutine") = false := by kernel_rfl
end Go.Proofs.Ytkhnfleejgfhgaa
