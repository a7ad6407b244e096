/-
  The codes of the seat's functions over abstract values, each shown to be its function's own (by program: wip/tools/codes.py).
-/
import Derived.Test.YtkhnfleejgfhgaaA2
import Derived.Test.YtkhnfleejgfhgaaProg
import Derived.KernelRfl
namespace Go.Proofs.Ytkhnfleejgfhgaa
def c7 : C := .seq
  (.reg [(none, (.mov (.const (.bool .false)), .some 4))] []) (.seq (.seq
  (.reg [(none, (.mov (.tmp 0), .some 9)), (none, (.len .false (.tmp 9), .some 10)), (none, (.bin .gtr (.tmp 10) (.const (.int .i64 300)), .some 11))] []) (.cond (.tmp 11) (.seq
  (.reg [(none, (.call (.func 40) [], .some 12)), (none, (.mov (.tmp 12), .some 4))] []) .ret) .skip)) (.seq
  (.reg [(none, (.mov (.tmp 0), .some 13)), (none, (.call (.func 44) [.tmp 13], .some 14)), (none, (.mov (.tmp 14), .some 5))] []) (.seq
  (.reg [(none, (.mov (.tmp 5), .some 15)), (none, (.mov (.tmp 1), .some 16)), (none, (.call (.func 45) [.tmp 15, .tmp 16], .some 17)), (none, (.mov (.tmp 17), .some 6))] []) (.seq
  (.reg [(none, (.mov (.tmp 0), .some 19)), (none, (.build [.slice none 0 0, .int .i64 0, .int .i64 0, .int .i64 0] [(0, (1, .tmp 19))], .some 20)), (none, (.mov (.tmp 1), .some 21)), (none, (.call (.func 46) [.tmp 20, .tmp 21], .some 22)), (none, (.mov (.tmp 22), .some 18)), (none, (.ext (.tmp 18) 0, .some 23)), (none, (.ext (.tmp 18) 1, .some 24)), (none, (.new [.slice none 0 0, .int .i64 0, .int .i64 0, .int .i64 0], .some 7)), (none, (.store 4 (.tmp 7) (.tmp 23), none)), (none, (.mov (.tmp 24), .some 8))] []) (.seq (.seq
  (.reg [(none, (.mov (.tmp 6), .some 25)), (none, (.mov (.tmp 8), .some 26)), (none, (.call (.func 47) [.tmp 25, .tmp 26], .some 27)), (none, (.un .not (.tmp 27), .some 28)), (none, (.mov (.tmp 28), .some 29)), (.some (29, .false), (.mov (.tmp 5), .some 30)), (.some (29, .false), (.call (.func 48) [.tmp 30], .some 31)), (.some (29, .false), (.fadr 2 (.tmp 7), .some 32)), (.some (29, .false), (.load (.some 2) (.tmp 32), .some 33)), (.some (29, .false), (.eqa .true 2 (.tmp 31) (.tmp 33), .some 34)), (none, (.pick (.tmp 29) (.const (.bool .true)) (.tmp 34), .some 35))] [(6, 8)]) (.cond (.tmp 35) (.seq
  (.reg [(none, (.mov (.const (.bool .false)), .some 4))] []) .ret) .skip)) (.seq (.seq
  (.reg [(none, (.fadr 2 (.tmp 7), .some 36)), (none, (.fadr 0 (.tmp 36), .some 37)), (none, (.load none (.tmp 37), .some 38)), (none, (.bin .neq (.tmp 38) (.const (.int .i64 0)), .some 39))] []) (.cond (.tmp 39) (.seq
  (.reg [(none, (.mov (.tmp 6), .some 40)), (none, (.len .false (.tmp 40), .some 41)), (none, (.bin .eql (.tmp 41) (.const (.int .i64 0)), .some 42)), (none, (.mov (.tmp 42), .some 43)), (.some (43, .true), (.call (.func 40) [], .some 44)), (none, (.pick (.tmp 43) (.tmp 44) (.const (.bool .false)), .some 45)), (none, (.mov (.tmp 45), .some 4))] []) .ret) .skip)) (.seq
  (.reg [(none, (.mov (.tmp 5), .some 46)), (none, (.call (.func 49) [.tmp 46], .some 47)), (none, (.fadr 1 (.tmp 7), .some 48)), (none, (.load none (.tmp 48), .some 49)), (none, (.bin .eql (.tmp 47) (.tmp 49), .some 50)), (none, (.mov (.tmp 50), .some 51)), (.some (51, .true), (.mov (.tmp 1), .some 52)), (.some (51, .true), (.mov (.tmp 6), .some 53)), (.some (51, .true), (.call (.func 39) [.tmp 52, .tmp 53], .some 54)), (none, (.pick (.tmp 51) (.tmp 54) (.const (.bool .false)), .some 55)), (none, (.mov (.tmp 55), .some 56)), (.some (56, .true), (.mov (.tmp 1), .some 57)), (.some (56, .true), (.mov (.tmp 6), .some 58)), (.some (56, .true), (.call (.func 50) [.tmp 57, .tmp 58], .some 59)), (.some (56, .true), (.mov (.tmp 0), .some 60)), (.some (56, .true), (.fadr 1 (.tmp 7), .some 61)), (.some (56, .true), (.load none (.tmp 61), .some 62)), (.some (56, .true), (.slice 1 (.tmp 60) none (.some (.tmp 62)) none, .some 63)), (.some (56, .true), (.call (.func 23) [.tmp 59, .tmp 63], .some 64)), (none, (.pick (.tmp 56) (.tmp 64) (.const (.bool .false)), .some 65)), (none, (.mov (.tmp 65), .some 66)), (.some (66, .true), (.call (.func 40) [], .some 67)), (none, (.pick (.tmp 66) (.tmp 67) (.const (.bool .false)), .some 68)), (none, (.mov (.tmp 68), .some 4))] [(1, 3), (13, 16)]) .ret)))))))
theorem b7 : Try.f7.body.bind (compC Try.prog) = some c7 := by kernel_rfl
theorem r7 : compR Try.prog Try.f7 = .some [.tmp 4] := by kernel_rfl
theorem n7 : (Try.f7.name == "runtime.NumGoroutine") = false := by kernel_rfl
def c27 : C := .seq
  (.reg [(none, (.box (.tmp 0), .some 2)), (none, (.box (.tmp 1), .some 3)), (none, (.mov (.const (.bool .false)), .some 4))] []) (.seq
  (.reg [(none, (.fadr 0 (.tmp 2), .some 5)), (none, (.load none (.tmp 5), .some 6)), (none, (.fadr 0 (.tmp 3), .some 7)), (none, (.load none (.tmp 7), .some 8)), (none, (.call (.func 47) [.tmp 6, .tmp 8], .some 9)), (none, (.mov (.tmp 9), .some 10)), (.some (10, .true), (.fadr 1 (.tmp 2), .some 11)), (.some (10, .true), (.load none (.tmp 11), .some 12)), (.some (10, .true), (.fadr 1 (.tmp 3), .some 13)), (.some (10, .true), (.load none (.tmp 13), .some 14)), (.some (10, .true), (.call (.func 23) [.tmp 12, .tmp 14], .some 15)), (none, (.pick (.tmp 10) (.tmp 15) (.const (.bool .false)), .some 16)), (none, (.mov (.tmp 16), .some 4))] []) .ret)
theorem b27 : Try.f27.body.bind (compC Try.prog) = some c27 := by kernel_rfl
theorem r27 : compR Try.prog Try.f27 = .some [.tmp 4] := by kernel_rfl
theorem n27 : (Try.f27.name == "runtime.NumGoroutine") = false := by kernel_rfl
def c38 : C := .seq
  (.reg [(none, (.mov (.const (.bool .false)), .some 2))] []) (.seq (.seq
  (.reg [(none, (.mov (.const (.int .i64 0)), .some 3))] []) (.block 0 (.loop (.seq (.seq
  (.reg [(none, (.mov (.tmp 3), .some 4)), (none, (.mov (.tmp 0), .some 5)), (none, (.len .false (.tmp 5), .some 6)), (none, (.bin .lss (.tmp 4) (.tmp 6), .some 7)), (none, (.mov (.tmp 7), .some 8)), (.some (8, .true), (.mov (.tmp 3), .some 9)), (.some (8, .true), (.bin .lss (.tmp 9) (.const (.int .i64 50)), .some 10)), (none, (.pick (.tmp 8) (.tmp 10) (.const (.bool .false)), .some 11))] []) (.cond (.tmp 11) .skip (.exit 0))) (.seq (.block 1 (.seq
  (.reg [(none, (.mov (.tmp 0), .some 14)), (none, (.mov (.tmp 3), .some 15)), (none, (.iadr 2 (.tmp 14) (.tmp 15), .some 16)), (none, (.fadr 1 (.tmp 16), .some 17)), (none, (.load none (.tmp 17), .some 18)), (none, (.len .false (.tmp 18), .some 19)), (none, (.bin .gtr (.tmp 19) (.const (.int .i64 50)), .some 20))] []) (.cond (.tmp 20) (.seq
  (.reg [(none, (.mov (.const (.bool .true)), .some 2))] []) .ret) .skip)))
  (.reg [(none, (.mov (.tmp 3), .some 12)), (none, (.bin .add (.tmp 12) (.const (.int .i64 1)), .some 13)), (none, (.mov (.tmp 13), .some 3))] [])))))) (.seq
  (.reg [(none, (.mov (.tmp 0), .some 21)), (none, (.len .false (.tmp 21), .some 22)), (none, (.bin .gtr (.tmp 22) (.const (.int .i64 50)), .some 23)), (none, (.mov (.tmp 23), .some 2))] []) .ret))
theorem b38 : Try.f38.body.bind (compC Try.prog) = some c38 := by kernel_rfl
theorem r38 : compR Try.prog Try.f38 = .some [.tmp 2] := by kernel_rfl
theorem n38 : (Try.f38.name == "runtime.NumGoroutine") = false := by kernel_rfl
def c48 : C := .seq
  (.reg [(none, (.new [.int .i64 0, .int .i64 0], .some 2))] []) (.seq (.seq
  (.reg [(none, (.mov (.tmp 0), .some 3)), (none, (.eqp .false (.tmp 3) (.const (.pointer none)), .some 4))] []) (.cond (.tmp 4) (.seq
  (.reg [(none, (.call (.func 124) [.const (.int .i64 19), .const (.int .i64 0)], .some 5)), (none, (.store 2 (.tmp 2) (.tmp 5), none))] []) .ret) .skip)) (.seq
  (.reg [(none, (.mov (.tmp 0), .some 6)), (none, (.nilc (.tmp 6), .some 7)), (none, (.fadr 2 (.tmp 7), .some 8)), (none, (.load (.some 2) (.tmp 8), .some 9)), (none, (.store 2 (.tmp 2) (.tmp 9), none))] []) .ret))
theorem b48 : Try.f48.body.bind (compC Try.prog) = some c48 := by kernel_rfl
theorem r48 : compR Try.prog Try.f48 = .some [.cell 2 (.some 2)] := by kernel_rfl
theorem n48 : (Try.f48.name == "runtime.NumGoroutine") = false := by kernel_rfl
def c49 : C := .seq
  (.reg [(none, (.mov (.const (.int .i64 0)), .some 2))] []) (.seq (.seq
  (.reg [(none, (.mov (.tmp 0), .some 3)), (none, (.eqp .false (.tmp 3) (.const (.pointer none)), .some 4))] []) (.cond (.tmp 4) (.seq
  (.reg [(none, (.mov (.const (.int .i64 0)), .some 2))] []) .ret) .skip)) (.seq
  (.reg [(none, (.mov (.tmp 0), .some 5)), (none, (.nilc (.tmp 5), .some 6)), (none, (.fadr 1 (.tmp 6), .some 7)), (none, (.load none (.tmp 7), .some 8)), (none, (.mov (.tmp 8), .some 2))] []) .ret))
theorem b49 : Try.f49.body.bind (compC Try.prog) = some c49 := by kernel_rfl
theorem r49 : compR Try.prog Try.f49 = .some [.tmp 2] := by kernel_rfl
theorem n49 : (Try.f49.name == "runtime.NumGoroutine") = false := by kernel_rfl
def c51 : C := .seq
  (.reg [(none, (.new [.slice none 0 0, .slice none 0 0], .some 6)), (none, (.mov (.const (.int .i64 0)), .some 7))] []) (.seq
  (.reg [(none, (.mov (.tmp 0), .some 10)), (none, (.mov (.tmp 1), .some 11)), (none, (.call (.func 45) [.tmp 10, .tmp 11], .some 12)), (none, (.build [.slice none 0 0, .slice none 0 0] [(0, (1, .tmp 12))], .some 13)), (none, (.new [.slice none 0 0, .slice none 0 0], .some 8)), (none, (.store 2 (.tmp 8) (.tmp 13), none))] []) (.seq
  (.reg [(none, (.mov (.tmp 0), .some 14)), (none, (.mov (.tmp 2), .some 15)), (none, (.call (.func 99) [.tmp 14, .tmp 15], .some 16)), (none, (.mov (.tmp 16), .some 9))] []) (.seq (.seq
  (.reg [(none, (.mov (.tmp 0), .some 17)), (none, (.call (.func 57) [.tmp 17], .some 18)), (none, (.un .not (.tmp 18), .some 19))] []) (.cond (.tmp 19) (.seq
  (.reg [(none, (.build [.slice none 0 0, .slice none 0 0] [], .some 20)), (none, (.store 2 (.tmp 6) (.tmp 20), none)), (none, (.mov (.const (.int .i64 0)), .some 7))] []) .ret) .skip)) (.seq
  (.reg [(none, (.load (.some 2) (.tmp 8), .some 21)), (none, (.mov (.tmp 9), .some 22)), (none, (.store 2 (.tmp 6) (.tmp 21), none)), (none, (.mov (.tmp 22), .some 7))] []) .ret))))
theorem b51 : Try.f51.body.bind (compC Try.prog) = some c51 := by kernel_rfl
theorem r51 : compR Try.prog Try.f51 = .some [.cell 6 (.some 2), .tmp 7] := by kernel_rfl
theorem n51 : (Try.f51.name == "runtime.NumGoroutine") = false := by kernel_rfl
def c53 : C := .seq
  (.reg [(none, (.mov (.const (.pointer none)), .some 2))] []) (.seq
  (.reg [(none, (.mov (.tmp 0), .some 3)), (none, (.mx .true (.tmp 3) (.const (.int .i64 0)), .some 4)), (none, (.build [.int .i64 0, .slice none 0 0, .int .i64 0] [(0, (1, .tmp 4))], .some 5)), (none, (.box (.tmp 5), .some 6)), (none, (.mov (.tmp 6), .some 2))] []) .ret)
theorem b53 : Try.f53.body.bind (compC Try.prog) = some c53 := by kernel_rfl
theorem r53 : compR Try.prog Try.f53 = .some [.tmp 2] := by kernel_rfl
theorem n53 : (Try.f53.name == "runtime.NumGoroutine") = false := by kernel_rfl
def c56 : C := .seq
  (.reg [(none, (.mov (.const (.int .i64 0)), .some 4))] []) (.seq (.seq
  (.reg [(none, (.mov (.tmp 0), .some 8)), (none, (.mov (.tmp 1), .some 9)), (none, (.call (.func 41) [.tmp 8, .tmp 9], .some 10)), (none, (.un .not (.tmp 10), .some 11))] []) (.cond (.tmp 11) (.seq
  (.reg [(none, (.mov (.const (.int .i64 0)), .some 4))] []) .ret) .skip)) (.seq
  (.reg [(none, (.mov (.tmp 1), .some 12)), (none, (.len .false (.tmp 12), .some 13)), (none, (.cvt .u64 (.tmp 13), .some 14)), (none, (.call (.func 131) [.tmp 14], .some 15)), (none, (.mov (.tmp 15), .some 5))] []) (.seq (.seq
  (.reg [(none, (.mov (.tmp 1), .some 16)), (none, (.call (.func 128) [.tmp 16], .some 17)), (none, (.len .false (.tmp 17), .some 18)), (none, (.mov (.const (.int .i64 0)), .some 19))] []) (.block 0 (.loop (.seq
  (.reg [(none, (.bin .lss (.tmp 19) (.tmp 18), .some 20))] []) (.seq (.cond (.tmp 20) .skip (.exit 0)) (.seq (.block 1 (.seq
  (.reg [(none, (.mov (.tmp 19), .some 21)), (none, (.iadr 1 (.tmp 17) (.tmp 19), .some 22)), (none, (.load none (.tmp 22), .some 23)), (none, (.mov (.tmp 21), .some 6)), (none, (.mov (.tmp 23), .some 7))] [])
  (.reg [(none, (.mov (.tmp 5), .some 24)), (none, (.mov (.tmp 7), .some 25)), (none, (.call (.func 131) [.tmp 25], .some 26)), (none, (.mov (.tmp 0), .some 27)), (none, (.mov (.tmp 1), .some 28)), (none, (.mov (.tmp 6), .some 29)), (none, (.iadr 2 (.tmp 28) (.tmp 29), .some 30)), (none, (.fadr 1 (.tmp 30), .some 31)), (none, (.load none (.tmp 31), .some 32)), (none, (.call (.func 132) [.tmp 27, .tmp 32], .some 33)), (none, (.bin .add (.tmp 26) (.tmp 33), .some 34)), (none, (.bin .add (.tmp 24) (.tmp 34), .some 35)), (none, (.mov (.tmp 35), .some 5))] [(2, 8)])))
  (.reg [(none, (.bin .add (.tmp 19) (.const (.int .i64 1)), .some 36)), (none, (.mov (.tmp 36), .some 19))] []))))))) (.seq
  (.reg [(none, (.mov (.tmp 5), .some 37)), (none, (.mov (.tmp 37), .some 4))] []) .ret))))
theorem b56 : Try.f56.body.bind (compC Try.prog) = some c56 := by kernel_rfl
theorem r56 : compR Try.prog Try.f56 = .some [.tmp 4] := by kernel_rfl
theorem n56 : (Try.f56.name == "runtime.NumGoroutine") = false := by kernel_rfl
def c81 : C := .seq
  (.reg [(none, (.box (.tmp 1), .some 3)), (none, (.mov (.const (.bool .false)), .some 4))] []) (.seq
  (.reg [(none, (.mov (.tmp 0), .some 5)), (none, (.fadr 0 (.tmp 3), .some 6)), (none, (.load none (.tmp 6), .some 7)), (none, (.call (.func 41) [.tmp 5, .tmp 7], .some 8)), (none, (.mov (.tmp 8), .some 9)), (.some (9, .true), (.fadr 1 (.tmp 3), .some 10)), (.some (9, .true), (.load none (.tmp 10), .some 11)), (.some (9, .true), (.len .false (.tmp 11), .some 12)), (.some (9, .true), (.bin .leq (.tmp 12) (.const (.int .i64 1048576)), .some 13)), (none, (.pick (.tmp 9) (.tmp 13) (.const (.bool .false)), .some 14)), (none, (.mov (.tmp 14), .some 4))] []) .ret)
theorem b81 : Try.f81.body.bind (compC Try.prog) = some c81 := by kernel_rfl
theorem r81 : compR Try.prog Try.f81 = .some [.tmp 4] := by kernel_rfl
theorem n81 : (Try.f81.name == "runtime.NumGoroutine") = false := by kernel_rfl
def c100 : C := .seq
  (.reg [(none, (.mov (.const (.int .u64 0)), .some 2))] []) (.scope (.seq
  (.reg [(none, (.mov (.const (.int .u64 0)), .some 3))] []) (.seq
  (.reg [(none, (.mov (.const (.int .u8 0)), .some 4))] []) (.seq
  (.reg [(none, (.mov (.tmp 0), .some 7)), (none, (.call (.func 49) [.tmp 7], .some 8)), (none, (.mov (.const (.int .i64 0)), .some 5)), (none, (.mov (.tmp 8), .some 6))] []) (.seq (.label 0) (.seq
  (.reg [(none, (.mov (.tmp 0), .some 9)), (none, (.call (.func 96) [.tmp 9], .some 10)), (none, (.mov (.tmp 10), .some 4))] []) (.seq (.block 0 (.seq
  (.reg [(none, (.mov (.tmp 0), .some 12)), (none, (.call (.func 57) [.tmp 12], .some 13)), (none, (.un .not (.tmp 13), .some 14)), (none, (.mov (.tmp 14), .some 11))] []) (.cond (.tmp 11) (.seq
  (.reg [(none, (.mov (.const (.int .u64 0)), .some 2))] []) .ret) (.seq
  (.reg [(none, (.mov (.tmp 5), .some 16)), (none, (.bin .eql (.tmp 16) (.const (.int .i64 63)), .some 17)), (none, (.mov (.tmp 17), .some 18)), (.some (18, .true), (.mov (.tmp 4), .some 19)), (.some (18, .true), (.bin .gtr (.tmp 19) (.const (.int .u8 1)), .some 20)), (none, (.pick (.tmp 18) (.tmp 20) (.const (.bool .false)), .some 21)), (none, (.mov (.tmp 21), .some 15))] []) (.cond (.tmp 15) (.seq
  (.reg [(none, (.mov (.tmp 0), .some 22)), (none, (.mov (.tmp 0), .some 23)), (none, (.call (.func 49) [.tmp 23], .some 24)), (none, (.bin .sub (.tmp 24) (.const (.int .i64 1)), .some 25)), (none, (.call (.func 97) [.tmp 22, .const (.int .i64 5), .tmp 25], .some 26))] []) (.seq
  (.reg [(none, (.mov (.const (.int .u64 0)), .some 2))] []) .ret)) (.seq
  (.reg [(none, (.mov (.tmp 4), .some 28)), (none, (.bin .eql (.tmp 28) (.const (.int .u8 0)), .some 29)), (none, (.mov (.tmp 29), .some 30)), (.some (30, .true), (.mov (.tmp 0), .some 31)), (.some (30, .true), (.call (.func 49) [.tmp 31], .some 32)), (.some (30, .true), (.bin .sub (.tmp 32) (.const (.int .i64 1)), .some 33)), (.some (30, .true), (.mov (.tmp 6), .some 34)), (.some (30, .true), (.bin .gtr (.tmp 33) (.tmp 34), .some 35)), (none, (.pick (.tmp 30) (.tmp 35) (.const (.bool .false)), .some 36)), (none, (.mov (.tmp 36), .some 27))] []) (.cond (.tmp 27) (.seq
  (.reg [(none, (.mov (.tmp 0), .some 37)), (none, (.mov (.tmp 0), .some 38)), (none, (.call (.func 49) [.tmp 38], .some 39)), (none, (.bin .sub (.tmp 39) (.const (.int .i64 1)), .some 40)), (none, (.call (.func 97) [.tmp 37, .const (.int .i64 4), .tmp 40], .some 41))] []) (.seq
  (.reg [(none, (.mov (.const (.int .u64 0)), .some 2))] []) .ret)) .skip))))))) (.seq
  (.reg [(none, (.mov (.tmp 3), .some 42)), (none, (.mov (.tmp 4), .some 43)), (none, (.bin .rem (.tmp 43) (.const (.int .u8 128)), .some 44)), (none, (.cvt .u64 (.tmp 44), .some 45)), (none, (.mov (.tmp 5), .some 46)), (none, (.bin .shl (.tmp 45) (.tmp 46), .some 47)), (none, (.bin .or (.tmp 42) (.tmp 47), .some 48)), (none, (.mov (.tmp 48), .some 3))] []) (.seq
  (.reg [(none, (.mov (.tmp 5), .some 49)), (none, (.bin .add (.tmp 49) (.const (.int .i64 7)), .some 50)), (none, (.mov (.tmp 50), .some 5))] []) (.seq (.seq
  (.reg [(none, (.mov (.tmp 4), .some 51)), (none, (.bin .geq (.tmp 51) (.const (.int .u8 128)), .some 52))] []) (.cond (.tmp 52) (.goto 0) .skip)) (.seq
  (.reg [(none, (.mov (.tmp 3), .some 53)), (none, (.mov (.tmp 53), .some 2))] []) .ret)))))))))))
theorem b100 : Try.f100.body.bind (compC Try.prog) = some c100 := by kernel_rfl
theorem r100 : compR Try.prog Try.f100 = .some [.tmp 2] := by kernel_rfl
theorem n100 : (Try.f100.name == "runtime.NumGoroutine") = false := by kernel_rfl
def c106 : C := .seq
  (.reg [(none, (.box (.tmp 0), .some 2)), (none, (.new [.slice none 0 0, .int .i64 0, .int .i64 0, .int .i64 0], .some 4)), (none, (.mov (.const (.int .i64 0)), .some 5))] []) (.seq (.seq
  (.reg [(none, (.mov (.tmp 1), .some 10)), (none, (.bin .geq (.tmp 10) (.const (.int .i64 0)), .some 11))] []) (.cond (.tmp 11) (.seq
  (.reg [(none, (.load (.some 4) (.tmp 2), .some 13)), (none, (.mov (.tmp 1), .some 14)), (none, (.cvt .u64 (.tmp 14), .some 15)), (none, (.call (.func 166) [.tmp 13, .tmp 15], .some 16)), (none, (.mov (.tmp 16), .some 12)), (none, (.ext (.tmp 12) 0, .some 17)), (none, (.ext (.tmp 12) 1, .some 18)), (none, (.new [.slice none 0 0, .int .i64 0, .int .i64 0, .int .i64 0], .some 6)), (none, (.store 4 (.tmp 6) (.tmp 17), none)), (none, (.mov (.tmp 18), .some 7))] []) (.seq
  (.reg [(none, (.load (.some 4) (.tmp 6), .some 19)), (none, (.mov (.tmp 7), .some 20)), (none, (.cvt .i64 (.tmp 20), .some 21)), (none, (.store 4 (.tmp 4) (.tmp 19), none)), (none, (.mov (.tmp 21), .some 5))] []) .ret)) .skip)) (.seq
  (.reg [(none, (.load (.some 4) (.tmp 2), .some 23)), (none, (.call (.func 107) [.tmp 23], .some 24)), (none, (.mov (.tmp 24), .some 22)), (none, (.ext (.tmp 22) 0, .some 25)), (none, (.ext (.tmp 22) 1, .some 26)), (none, (.new [.slice none 0 0, .int .i64 0, .int .i64 0, .int .i64 0], .some 8)), (none, (.store 4 (.tmp 8) (.tmp 25), none)), (none, (.mov (.tmp 26), .some 9))] []) (.seq
  (.reg [(none, (.load (.some 4) (.tmp 8), .some 27)), (none, (.fadr 1 (.tmp 2), .some 28)), (none, (.load none (.tmp 28), .some 29)), (none, (.call (.func 104) [.tmp 27, .const (.int .i64 2), .tmp 29], .some 30)), (none, (.store 4 (.tmp 4) (.tmp 30), none)), (none, (.mov (.const (.int .i64 0)), .some 5))] []) .ret)))
theorem b106 : Try.f106.body.bind (compC Try.prog) = some c106 := by kernel_rfl
theorem r106 : compR Try.prog Try.f106 = .some [.cell 4 (.some 4), .tmp 5] := by kernel_rfl
theorem n106 : (Try.f106.name == "runtime.NumGoroutine") = false := by kernel_rfl
def c110 : C := .seq
  (.reg [(none, (.mov (.const (.slice none 0 0)), .some 2))] []) (.seq (.seq
  (.reg [(none, (.mov (.tmp 0), .some 3)), (none, (.bin .lss (.tmp 3) (.const (.int .u64 128)), .some 4))] []) (.cond (.tmp 4) (.seq
  (.reg [(none, (.mov (.tmp 0), .some 5)), (none, (.cvt .u8 (.tmp 5), .some 6)), (none, (.bsl 1 [.tmp 6], .some 7)), (none, (.mov (.tmp 7), .some 2))] []) .ret) .skip)) (.seq
  (.reg [(none, (.mov (.tmp 0), .some 8)), (none, (.bin .rem (.tmp 8) (.const (.int .u64 128)), .some 9)), (none, (.bin .add (.const (.int .u64 128)) (.tmp 9), .some 10)), (none, (.cvt .u8 (.tmp 10), .some 11)), (none, (.bsl 1 [.tmp 11], .some 12)), (none, (.mov (.tmp 0), .some 13)), (none, (.bin .quo (.tmp 13) (.const (.int .u64 128)), .some 14)), (none, (.call (.func 110) [.tmp 14], .some 15)), (none, (.app 1 1 (.tmp 12) (.tmp 15), .some 16)), (none, (.mov (.tmp 16), .some 2))] []) .ret))
theorem b110 : Try.f110.body.bind (compC Try.prog) = some c110 := by kernel_rfl
theorem r110 : compR Try.prog Try.f110 = .some [.tmp 2] := by kernel_rfl
theorem n110 : (Try.f110.name == "runtime.NumGoroutine") = false := by kernel_rfl
def c111 : C := .seq
  (.reg [(none, (.mov (.const (.bool .false)), .some 4))] []) (.seq (.seq
  (.reg [(none, (.mov (.const (.int .i64 0)), .some 5))] []) (.block 0 (.loop (.seq (.seq
  (.reg [(none, (.mov (.tmp 5), .some 6)), (none, (.mov (.tmp 1), .some 7)), (none, (.len .false (.tmp 7), .some 8)), (none, (.bin .lss (.tmp 6) (.tmp 8), .some 9))] []) (.cond (.tmp 9) .skip (.exit 0))) (.seq (.block 1 (.seq
  (.reg [(none, (.mov (.tmp 5), .some 12)), (none, (.bin .eql (.tmp 12) (.const (.int .i64 0)), .some 13)), (none, (.mov (.tmp 13), .some 14)), (.some (14, .true), (.mov (.tmp 1), .some 15)), (.some (14, .true), (.iadr 1 (.tmp 15) (.const (.int .i64 0)), .some 16)), (.some (14, .true), (.load none (.tmp 16), .some 17)), (.some (14, .true), (.mov (.tmp 0), .some 18)), (.some (14, .true), (.bin .geq (.tmp 17) (.tmp 18), .some 19)), (none, (.pick (.tmp 14) (.tmp 19) (.const (.bool .false)), .some 20)), (none, (.mov (.tmp 20), .some 21)), (.some (21, .false), (.mov (.tmp 5), .some 22)), (.some (21, .false), (.bin .gtr (.tmp 22) (.const (.int .i64 0)), .some 23)), (.some (21, .false), (.mov (.tmp 23), .some 24)), (.some (24, .true), (.mov (.tmp 1), .some 25)), (.some (24, .true), (.mov (.tmp 5), .some 26)), (.some (24, .true), (.iadr 1 (.tmp 25) (.tmp 26), .some 27)), (.some (24, .true), (.load none (.tmp 27), .some 28)), (.some (24, .true), (.mov (.tmp 1), .some 29)), (.some (24, .true), (.mov (.tmp 5), .some 30)), (.some (24, .true), (.bin .sub (.tmp 30) (.const (.int .i64 1)), .some 31)), (.some (24, .true), (.iadr 1 (.tmp 29) (.tmp 31), .some 32)), (.some (24, .true), (.load none (.tmp 32), .some 33)), (.some (24, .true), (.bin .geq (.tmp 28) (.tmp 33), .some 34)), (.some (21, .false), (.pick (.tmp 24) (.tmp 34) (.const (.bool .false)), .some 35)), (none, (.pick (.tmp 21) (.const (.bool .true)) (.tmp 35), .some 36))] [(16, 21)]) (.cond (.tmp 36) (.seq
  (.reg [(none, (.mov (.const (.bool .false)), .some 4))] []) .ret) .skip)))
  (.reg [(none, (.mov (.tmp 5), .some 10)), (none, (.bin .add (.tmp 10) (.const (.int .i64 1)), .some 11)), (none, (.mov (.tmp 11), .some 5))] [])))))) (.seq
  (.reg [(none, (.mov (.const (.bool .true)), .some 4))] []) .ret))
theorem b111 : Try.f111.body.bind (compC Try.prog) = some c111 := by kernel_rfl
theorem r111 : compR Try.prog Try.f111 = .some [.tmp 4] := by kernel_rfl
theorem n111 : (Try.f111.name == "runtime.NumGoroutine") = false := by kernel_rfl
def c114 : C := .seq
  (.reg [(none, (.box (.tmp 0), .some 1)), (none, (.mov (.const (.int .u64 0)), .some 2))] []) (.seq
  (.reg [(none, (.fadr 0 (.tmp 1), .some 3)), (none, (.load none (.tmp 3), .some 4)), (none, (.mov (.tmp 4), .some 2))] []) .ret)
theorem b114 : Try.f114.body.bind (compC Try.prog) = some c114 := by kernel_rfl
theorem r114 : compR Try.prog Try.f114 = .some [.tmp 2] := by kernel_rfl
theorem n114 : (Try.f114.name == "runtime.NumGoroutine") = false := by kernel_rfl
def c115 : C := .seq
  (.reg [(none, (.box (.tmp 0), .some 2)), (none, (.mov (.const (.bool .false)), .some 3))] []) (.seq
  (.reg [(none, (.fadr 1 (.tmp 2), .some 4)), (none, (.load none (.tmp 4), .some 5)), (none, (.len .false (.tmp 5), .some 6)), (none, (.bin .gtr (.tmp 6) (.const (.int .i64 4)), .some 7)), (none, (.mov (.tmp 7), .some 8)), (.some (8, .false), (.load none (.tmp 1), .some 9)), (.some (8, .false), (.fadr 1 (.tmp 2), .some 10)), (.some (8, .false), (.load none (.tmp 10), .some 11)), (.some (8, .false), (.call (.func 116) [.tmp 9, .tmp 11], .some 12)), (.some (8, .false), (.un .not (.tmp 12), .some 13)), (none, (.pick (.tmp 8) (.const (.bool .true)) (.tmp 13), .some 14)), (none, (.mov (.tmp 14), .some 3))] []) .ret)
theorem b115 : Try.f115.body.bind (compC Try.prog) = some c115 := by kernel_rfl
theorem r115 : compR Try.prog Try.f115 = .some [.tmp 3] := by kernel_rfl
theorem n115 : (Try.f115.name == "runtime.NumGoroutine") = false := by kernel_rfl
def c140 : C := .block 0 (.seq
  (.reg [(none, (.mov (.tmp 0), .some 14)), (none, (.call (.func 130) [.tmp 14], .some 15)), (none, (.bin .neq (.tmp 15) (.const (.int .i64 0)), .some 16)), (none, (.mov (.tmp 16), .some 13))] []) (.cond (.tmp 13) .skip (.seq
  (.reg [(none, (.mov (.tmp 1), .some 18)), (none, (.len .false (.tmp 18), .some 19)), (none, (.mov (.tmp 0), .some 20)), (none, (.call (.func 174) [.tmp 20], .some 21)), (none, (.bin .gtr (.tmp 19) (.tmp 21), .some 22)), (none, (.mov (.tmp 22), .some 17))] []) (.cond (.tmp 17)
  (.reg [(none, (.mov (.tmp 0), .some 23)), (none, (.call (.func 126) [.tmp 23, .const (.int .i64 2)], .some 24))] [])
  (.reg [(none, (.mov (.tmp 0), .some 4)), (none, (.mov (.tmp 0), .some 5)), (none, (.nilc (.tmp 5), .some 6)), (none, (.fadr 1 (.tmp 6), .some 7)), (none, (.load none (.tmp 7), .some 8)), (none, (.mov (.tmp 1), .some 9)), (none, (.app 1 1 (.tmp 8) (.tmp 9), .some 10)), (none, (.nilc (.tmp 4), .some 11)), (none, (.fadr 1 (.tmp 11), .some 12)), (none, (.store 1 (.tmp 12) (.tmp 10), none))] [])))))
theorem b140 : Try.f140.body.bind (compC Try.prog) = some c140 := by kernel_rfl
theorem r140 : compR Try.prog Try.f140 = .some [] := by kernel_rfl
theorem n140 : (Try.f140.name == "runtime.NumGoroutine") = false := by kernel_rfl
def c167 : C := .seq
  (.reg [(none, (.mov (.const (.int .u64 0)), .some 2)), (none, (.mov (.const (.int .i64 0)), .some 3)), (none, (.new [.int .i64 0, .int .i64 0], .some 4))] []) (.seq (.seq
  (.reg [(none, (.mov (.const (.int .i64 0)), .some 5))] []) (.block 0 (.loop (.seq (.seq
  (.reg [(none, (.mov (.tmp 5), .some 8)), (none, (.mov (.tmp 0), .some 9)), (none, (.len .false (.tmp 9), .some 10)), (none, (.bin .lss (.tmp 8) (.tmp 10), .some 11))] []) (.cond (.tmp 11) .skip (.exit 0))) (.seq (.block 1 (.seq (.seq
  (.reg [(none, (.mov (.tmp 5), .some 14)), (none, (.bin .eql (.tmp 14) (.const (.int .i64 9)), .some 15)), (none, (.mov (.tmp 15), .some 16)), (.some (16, .true), (.mov (.tmp 0), .some 17)), (.some (16, .true), (.mov (.tmp 5), .some 18)), (.some (16, .true), (.iadr 1 (.tmp 17) (.tmp 18), .some 19)), (.some (16, .true), (.load none (.tmp 19), .some 20)), (.some (16, .true), (.bin .gtr (.tmp 20) (.const (.int .u8 1)), .some 21)), (none, (.pick (.tmp 16) (.tmp 21) (.const (.bool .false)), .some 22))] []) (.cond (.tmp 22) (.seq
  (.reg [(none, (.mov (.tmp 5), .some 23)), (none, (.call (.func 156) [.const (.int .i64 5), .tmp 23], .some 24)), (none, (.mov (.const (.int .u64 0)), .some 2)), (none, (.mov (.const (.int .i64 0)), .some 3)), (none, (.store 2 (.tmp 4) (.tmp 24), none))] []) .ret) .skip)) (.seq (.seq
  (.reg [(none, (.mov (.tmp 5), .some 25)), (none, (.bin .gtr (.tmp 25) (.const (.int .i64 0)), .some 26)), (none, (.mov (.tmp 26), .some 27)), (.some (27, .true), (.mov (.tmp 0), .some 28)), (.some (27, .true), (.mov (.tmp 5), .some 29)), (.some (27, .true), (.iadr 1 (.tmp 28) (.tmp 29), .some 30)), (.some (27, .true), (.load none (.tmp 30), .some 31)), (.some (27, .true), (.bin .eql (.tmp 31) (.const (.int .u8 0)), .some 32)), (none, (.pick (.tmp 27) (.tmp 32) (.const (.bool .false)), .some 33))] []) (.cond (.tmp 33) (.seq
  (.reg [(none, (.mov (.tmp 5), .some 34)), (none, (.call (.func 156) [.const (.int .i64 4), .tmp 34], .some 35)), (none, (.mov (.const (.int .u64 0)), .some 2)), (none, (.mov (.const (.int .i64 0)), .some 3)), (none, (.store 2 (.tmp 4) (.tmp 35), none))] []) .ret) .skip)) (.seq
  (.reg [(none, (.mov (.tmp 0), .some 36)), (none, (.mov (.tmp 5), .some 37)), (none, (.iadr 1 (.tmp 36) (.tmp 37), .some 38)), (none, (.load none (.tmp 38), .some 39)), (none, (.bin .lss (.tmp 39) (.const (.int .u8 128)), .some 40))] []) (.cond (.tmp 40) (.seq
  (.reg [(none, (.mov (.const (.int .u64 0)), .some 6))] []) (.seq (.seq
  (.reg [(none, (.mov (.tmp 5), .some 41)), (none, (.mov (.tmp 41), .some 7))] []) (.block 2 (.loop (.seq (.seq
  (.reg [(none, (.mov (.tmp 7), .some 42)), (none, (.bin .geq (.tmp 42) (.const (.int .i64 0)), .some 43))] []) (.cond (.tmp 43) .skip (.exit 2))) (.seq (.block 3
  (.reg [(none, (.mov (.tmp 6), .some 46)), (none, (.bin .mul (.const (.int .u64 128)) (.tmp 46), .some 47)), (none, (.mov (.tmp 0), .some 48)), (none, (.mov (.tmp 7), .some 49)), (none, (.iadr 1 (.tmp 48) (.tmp 49), .some 50)), (none, (.load none (.tmp 50), .some 51)), (none, (.bin .rem (.tmp 51) (.const (.int .u8 128)), .some 52)), (none, (.cvt .u64 (.tmp 52), .some 53)), (none, (.bin .add (.tmp 47) (.tmp 53), .some 54)), (none, (.mov (.tmp 54), .some 6))] []))
  (.reg [(none, (.mov (.tmp 7), .some 44)), (none, (.bin .sub (.tmp 44) (.const (.int .i64 1)), .some 45)), (none, (.mov (.tmp 45), .some 7))] [])))))) (.seq
  (.reg [(none, (.mov (.tmp 6), .some 55)), (none, (.mov (.tmp 5), .some 56)), (none, (.bin .add (.tmp 56) (.const (.int .i64 1)), .some 57)), (none, (.build [.int .i64 0, .int .i64 0] [], .some 58)), (none, (.mov (.tmp 55), .some 2)), (none, (.mov (.tmp 57), .some 3)), (none, (.store 2 (.tmp 4) (.tmp 58), none))] []) .ret))) .skip)))))
  (.reg [(none, (.mov (.tmp 5), .some 12)), (none, (.bin .add (.tmp 12) (.const (.int .i64 1)), .some 13)), (none, (.mov (.tmp 13), .some 5))] [])))))) (.seq
  (.reg [(none, (.mov (.tmp 0), .some 59)), (none, (.len .false (.tmp 59), .some 60)), (none, (.call (.func 156) [.const (.int .i64 1), .tmp 60], .some 61)), (none, (.mov (.const (.int .u64 0)), .some 2)), (none, (.mov (.const (.int .i64 0)), .some 3)), (none, (.store 2 (.tmp 4) (.tmp 61), none))] []) .ret))
theorem b167 : Try.f167.body.bind (compC Try.prog) = some c167 := by kernel_rfl
theorem r167 : compR Try.prog Try.f167 = .some [.tmp 2, .tmp 3, .cell 4 (.some 2)] := by kernel_rfl
theorem n167 : (Try.f167.name == "runtime.NumGoroutine") = false := by kernel_rfl
def c168 : C := .seq
  (.reg [(none, (.mov (.const (.slice none 0 0)), .some 4)), (none, (.mov (.const (.bool .false)), .some 5))] []) (.seq
  (.reg [(none, (.mov (.const (.slice none 0 0)), .some 6))] []) (.seq (.seq
  (.reg [(none, (.mov (.tmp 1), .some 9)), (none, (.len .false (.tmp 9), .some 10)), (none, (.mov (.const (.int .i64 0)), .some 11))] []) (.block 0 (.loop (.seq
  (.reg [(none, (.bin .lss (.tmp 11) (.tmp 10), .some 12))] []) (.seq (.cond (.tmp 12) .skip (.exit 0)) (.seq (.block 1 (.seq
  (.reg [(none, (.iadr 1 (.tmp 9) (.tmp 11), .some 13)), (none, (.load none (.tmp 13), .some 14)), (none, (.mov (.tmp 14), .some 8))] []) (.seq (.seq
  (.reg [(none, (.mov (.tmp 8), .some 15)), (none, (.mov (.tmp 0), .some 16)), (none, (.bin .geq (.tmp 15) (.tmp 16), .some 17))] []) (.cond (.tmp 17) (.seq
  (.reg [(none, (.mov (.const (.slice none 0 0)), .some 4)), (none, (.mov (.const (.bool .false)), .some 5))] []) .ret) .skip)) (.seq
  (.reg [(none, (.mov (.tmp 6), .some 18)), (none, (.mov (.tmp 0), .some 19)), (none, (.mov (.tmp 8), .some 20)), (none, (.bin .sub (.tmp 19) (.tmp 20), .some 21)), (none, (.bin .sub (.tmp 21) (.const (.int .u64 1)), .some 22)), (none, (.bsl 1 [.tmp 22], .some 23)), (none, (.app 1 8 (.tmp 18) (.tmp 23), .some 24)), (none, (.mov (.tmp 24), .some 6))] [])
  (.reg [(none, (.mov (.tmp 8), .some 25)), (none, (.mov (.tmp 25), .some 0))] [])))))
  (.reg [(none, (.bin .add (.tmp 11) (.const (.int .i64 1)), .some 26)), (none, (.mov (.tmp 26), .some 11))] []))))))) (.seq
  (.reg [(none, (.mov (.tmp 6), .some 27)), (none, (.mov (.tmp 27), .some 4)), (none, (.mov (.const (.bool .true)), .some 5))] []) .ret)))
theorem b168 : Try.f168.body.bind (compC Try.prog) = some c168 := by kernel_rfl
theorem r168 : compR Try.prog Try.f168 = .some [.tmp 4, .tmp 5] := by kernel_rfl
theorem n168 : (Try.f168.name == "runtime.NumGoroutine") = false := by kernel_rfl
end Go.Proofs.Ytkhnfleejgfhgaa
