/-
  The codes of the seat's functions over abstract values, each shown to be its function's own (by program: wip/tools/codes.py).
-/
import Derived.Test.YtgphhganepjaiaaA2
import Derived.Test.YtgphhganepjaiaaProg
import Derived.KernelRfl
namespace Go.Proofs.Ytgphhganepjaiaa
def c40 : C := .seq
  (.reg [(none, (.mov (.const (.slice none 0 0)), .some 2)), (none, (.mov (.const (.int .i64 0)), .some 3))] []) (.seq (.seq
  (.reg [(none, (.mov (.tmp 0), .some 5)), (none, (.call (.func 123) [.tmp 5], .some 6)), (none, (.mov (.tmp 6), .some 4))] []) (.seq
  (.reg [(none, (.mov (.tmp 4), .some 7)), (none, (.bin .neq (.tmp 7) (.const (.int .i64 0)), .some 8))] []) (.cond (.tmp 8) (.seq
  (.reg [(none, (.mov (.tmp 4), .some 9)), (none, (.mov (.const (.slice none 0 0)), .some 2)), (none, (.mov (.tmp 9), .some 3))] []) .ret) .skip))) (.seq
  (.reg [(none, (.bsl 1 [], .some 10)), (none, (.mov (.tmp 0), .some 11)), (none, (.nilc (.tmp 11), .some 12)), (none, (.fadr 1 (.tmp 12), .some 13)), (none, (.load none (.tmp 13), .some 14)), (none, (.app 1 1 (.tmp 10) (.tmp 14), .some 15)), (none, (.mov (.tmp 15), .some 2)), (none, (.mov (.const (.int .i64 0)), .some 3))] []) .ret))
theorem b40 : Try.f40.body.bind (compC Try.prog) = some c40 := by kernel_rfl
theorem r40 : compR Try.prog Try.f40 = .some [.tmp 2, .tmp 3] := by kernel_rfl
theorem n40 : (Try.f40.name == "runtime.NumGoroutine") = false := by kernel_rfl
def c65 : C := .seq
  (.reg [(none, (.mov (.const (.slice none 0 0)), .some 2))] []) (.seq
  (.reg [(none, (.mov (.const (.slice none 0 0)), .some 3))] []) (.seq (.block 0 (.loop (.seq (.seq
  (.reg [(none, (.mov (.tmp 0), .some 4)), (none, (.bin .geq (.tmp 4) (.const (.int .u64 128)), .some 5))] []) (.cond (.tmp 5) .skip (.exit 0))) (.block 1 (.seq
  (.reg [(none, (.mov (.tmp 3), .some 6)), (none, (.mov (.tmp 0), .some 7)), (none, (.cvt .u8 (.tmp 7), .some 8)), (none, (.bin .or (.tmp 8) (.const (.int .u8 128)), .some 9)), (none, (.bsl 1 [.tmp 9], .some 10)), (none, (.app 1 1 (.tmp 6) (.tmp 10), .some 11)), (none, (.mov (.tmp 11), .some 3))] [])
  (.reg [(none, (.mov (.tmp 0), .some 12)), (none, (.bin .shr (.tmp 12) (.const (.int .u64 7)), .some 13)), (none, (.mov (.tmp 13), .some 0))] [])))))) (.seq
  (.reg [(none, (.mov (.tmp 3), .some 14)), (none, (.mov (.tmp 0), .some 15)), (none, (.cvt .u8 (.tmp 15), .some 16)), (none, (.bsl 1 [.tmp 16], .some 17)), (none, (.app 1 1 (.tmp 14) (.tmp 17), .some 18)), (none, (.mov (.tmp 18), .some 2))] []) .ret)))
theorem b65 : Try.f65.body.bind (compC Try.prog) = some c65 := by kernel_rfl
theorem r65 : compR Try.prog Try.f65 = .some [.tmp 2] := by kernel_rfl
theorem n65 : (Try.f65.name == "runtime.NumGoroutine") = false := by kernel_rfl
def c67 : C := .seq
  (.reg [(none, (.mov (.const (.int .i64 0)), .some 2))] []) (.seq
  (.reg [(none, (.mov (.const (.int .i64 0)), .some 3))] []) (.seq (.seq
  (.reg [(none, (.mov (.tmp 0), .some 6)), (none, (.call (.func 120) [.tmp 6], .some 7)), (none, (.un .not (.tmp 7), .some 8))] []) (.cond (.tmp 8) (.seq
  (.reg [(none, (.mov (.const (.int .i64 0)), .some 2))] []) .ret) .skip)) (.seq (.seq
  (.reg [(none, (.mov (.tmp 0), .some 9)), (none, (.len .false (.tmp 9), .some 10)), (none, (.mov (.const (.int .i64 0)), .some 11))] []) (.block 0 (.loop (.seq
  (.reg [(none, (.bin .lss (.tmp 11) (.tmp 10), .some 12))] []) (.seq (.cond (.tmp 12) .skip (.exit 0)) (.seq (.block 1 (.seq
  (.reg [(none, (.iadr 3 (.tmp 9) (.tmp 11), .some 13)), (none, (.load (.some 3) (.tmp 13), .some 14)), (none, (.new [.int .u64 0, .int .i64 0, .int .i64 0], .some 5)), (none, (.store 3 (.tmp 5) (.tmp 14), none))] [])
  (.reg [(none, (.mov (.tmp 3), .some 15)), (none, (.fadr 1 (.tmp 5), .some 16)), (none, (.load none (.tmp 16), .some 17)), (none, (.bin .add (.tmp 15) (.tmp 17), .some 18)), (none, (.mov (.tmp 18), .some 3))] [])))
  (.reg [(none, (.bin .add (.tmp 11) (.const (.int .i64 1)), .some 19)), (none, (.mov (.tmp 19), .some 11))] []))))))) (.seq
  (.reg [(none, (.mov (.tmp 3), .some 20)), (none, (.mov (.tmp 20), .some 2))] []) .ret))))
theorem b67 : Try.f67.body.bind (compC Try.prog) = some c67 := by kernel_rfl
theorem r67 : compR Try.prog Try.f67 = .some [.tmp 2] := by kernel_rfl
theorem n67 : (Try.f67.name == "runtime.NumGoroutine") = false := by kernel_rfl
def c79 : C := .seq
  (.reg [(none, (.mov (.const (.int .i64 0)), .some 2))] []) (.seq (.seq
  (.reg [(none, (.mov (.tmp 0), .some 3)), (none, (.eqp .false (.tmp 3) (.const (.pointer none)), .some 4))] []) (.cond (.tmp 4) (.seq
  (.reg [(none, (.mov (.const (.int .i64 0)), .some 2))] []) .ret) .skip)) (.seq
  (.reg [(none, (.mov (.tmp 0), .some 5)), (none, (.nilc (.tmp 5), .some 6)), (none, (.fadr 1 (.tmp 6), .some 7)), (none, (.load none (.tmp 7), .some 8)), (none, (.mov (.tmp 8), .some 2))] []) .ret))
theorem b79 : Try.f79.body.bind (compC Try.prog) = some c79 := by kernel_rfl
theorem r79 : compR Try.prog Try.f79 = .some [.tmp 2] := by kernel_rfl
theorem n79 : (Try.f79.name == "runtime.NumGoroutine") = false := by kernel_rfl
def c80 : C := .seq
  (.reg [(none, (.mov (.const (.int .u64 0)), .some 2)), (none, (.mov (.const (.int .i64 0)), .some 3)), (none, (.new [.int .i64 0, .int .i64 0], .some 4))] []) (.seq (.seq
  (.reg [(none, (.mov (.const (.int .i64 0)), .some 5))] []) (.block 0 (.loop (.seq (.seq
  (.reg [(none, (.mov (.tmp 5), .some 8)), (none, (.mov (.tmp 0), .some 9)), (none, (.len .false (.tmp 9), .some 10)), (none, (.bin .lss (.tmp 8) (.tmp 10), .some 11))] []) (.cond (.tmp 11) .skip (.exit 0))) (.seq (.block 1 (.seq (.seq
  (.reg [(none, (.mov (.tmp 5), .some 14)), (none, (.bin .eql (.tmp 14) (.const (.int .i64 9)), .some 15)), (none, (.mov (.tmp 15), .some 16)), (.some (16, .true), (.mov (.tmp 0), .some 17)), (.some (16, .true), (.mov (.tmp 5), .some 18)), (.some (16, .true), (.iadr 1 (.tmp 17) (.tmp 18), .some 19)), (.some (16, .true), (.load none (.tmp 19), .some 20)), (.some (16, .true), (.bin .gtr (.tmp 20) (.const (.int .u8 1)), .some 21)), (none, (.pick (.tmp 16) (.tmp 21) (.const (.bool .false)), .some 22))] []) (.cond (.tmp 22) (.seq
  (.reg [(none, (.mov (.tmp 5), .some 23)), (none, (.call (.func 131) [.const (.int .i64 5), .tmp 23], .some 24)), (none, (.mov (.const (.int .u64 0)), .some 2)), (none, (.mov (.const (.int .i64 0)), .some 3)), (none, (.store 2 (.tmp 4) (.tmp 24), none))] []) .ret) .skip)) (.seq (.seq
  (.reg [(none, (.mov (.tmp 5), .some 25)), (none, (.bin .gtr (.tmp 25) (.const (.int .i64 0)), .some 26)), (none, (.mov (.tmp 26), .some 27)), (.some (27, .true), (.mov (.tmp 0), .some 28)), (.some (27, .true), (.mov (.tmp 5), .some 29)), (.some (27, .true), (.iadr 1 (.tmp 28) (.tmp 29), .some 30)), (.some (27, .true), (.load none (.tmp 30), .some 31)), (.some (27, .true), (.bin .eql (.tmp 31) (.const (.int .u8 0)), .some 32)), (none, (.pick (.tmp 27) (.tmp 32) (.const (.bool .false)), .some 33))] []) (.cond (.tmp 33) (.seq
  (.reg [(none, (.mov (.tmp 5), .some 34)), (none, (.call (.func 131) [.const (.int .i64 4), .tmp 34], .some 35)), (none, (.mov (.const (.int .u64 0)), .some 2)), (none, (.mov (.const (.int .i64 0)), .some 3)), (none, (.store 2 (.tmp 4) (.tmp 35), none))] []) .ret) .skip)) (.seq
  (.reg [(none, (.mov (.tmp 0), .some 36)), (none, (.mov (.tmp 5), .some 37)), (none, (.iadr 1 (.tmp 36) (.tmp 37), .some 38)), (none, (.load none (.tmp 38), .some 39)), (none, (.bin .lss (.tmp 39) (.const (.int .u8 128)), .some 40))] []) (.cond (.tmp 40) (.seq
  (.reg [(none, (.mov (.const (.int .u64 0)), .some 6))] []) (.seq (.seq
  (.reg [(none, (.mov (.tmp 5), .some 41)), (none, (.mov (.tmp 41), .some 7))] []) (.block 2 (.loop (.seq (.seq
  (.reg [(none, (.mov (.tmp 7), .some 42)), (none, (.bin .geq (.tmp 42) (.const (.int .i64 0)), .some 43))] []) (.cond (.tmp 43) .skip (.exit 2))) (.seq (.block 3
  (.reg [(none, (.mov (.tmp 6), .some 46)), (none, (.bin .mul (.const (.int .u64 128)) (.tmp 46), .some 47)), (none, (.mov (.tmp 0), .some 48)), (none, (.mov (.tmp 7), .some 49)), (none, (.iadr 1 (.tmp 48) (.tmp 49), .some 50)), (none, (.load none (.tmp 50), .some 51)), (none, (.bin .rem (.tmp 51) (.const (.int .u8 128)), .some 52)), (none, (.cvt .u64 (.tmp 52), .some 53)), (none, (.bin .add (.tmp 47) (.tmp 53), .some 54)), (none, (.mov (.tmp 54), .some 6))] []))
  (.reg [(none, (.mov (.tmp 7), .some 44)), (none, (.bin .sub (.tmp 44) (.const (.int .i64 1)), .some 45)), (none, (.mov (.tmp 45), .some 7))] [])))))) (.seq
  (.reg [(none, (.mov (.tmp 6), .some 55)), (none, (.mov (.tmp 5), .some 56)), (none, (.bin .add (.tmp 56) (.const (.int .i64 1)), .some 57)), (none, (.build [.int .i64 0, .int .i64 0] [], .some 58)), (none, (.mov (.tmp 55), .some 2)), (none, (.mov (.tmp 57), .some 3)), (none, (.store 2 (.tmp 4) (.tmp 58), none))] []) .ret))) .skip)))))
  (.reg [(none, (.mov (.tmp 5), .some 12)), (none, (.bin .add (.tmp 12) (.const (.int .i64 1)), .some 13)), (none, (.mov (.tmp 13), .some 5))] [])))))) (.seq
  (.reg [(none, (.mov (.tmp 0), .some 59)), (none, (.len .false (.tmp 59), .some 60)), (none, (.call (.func 131) [.const (.int .i64 1), .tmp 60], .some 61)), (none, (.mov (.const (.int .u64 0)), .some 2)), (none, (.mov (.const (.int .i64 0)), .some 3)), (none, (.store 2 (.tmp 4) (.tmp 61), none))] []) .ret))
theorem b80 : Try.f80.body.bind (compC Try.prog) = some c80 := by kernel_rfl
theorem r80 : compR Try.prog Try.f80 = .some [.tmp 2, .tmp 3, .cell 4 (.some 2)] := by kernel_rfl
theorem n80 : (Try.f80.name == "runtime.NumGoroutine") = false := by kernel_rfl
def c88 : C := .seq
  (.reg [(none, (.mov (.const (.slice none 0 0)), .some 2))] []) (.seq
  (.reg [(none, (.mov (.const (.slice none 0 0)), .some 3))] []) (.seq (.seq
  (.reg [(none, (.mov (.tmp 0), .some 6)), (none, (.call (.func 120) [.tmp 6], .some 7)), (none, (.un .not (.tmp 7), .some 8))] []) (.cond (.tmp 8) (.seq
  (.reg [(none, (.mov (.const (.slice none 0 0)), .some 2))] []) .ret) .skip)) (.seq (.seq
  (.reg [(none, (.mov (.const (.int .i64 1)), .some 4))] []) (.block 0 (.loop (.seq (.seq
  (.reg [(none, (.mov (.tmp 4), .some 9)), (none, (.mov (.tmp 0), .some 10)), (none, (.len .false (.tmp 10), .some 11)), (none, (.bin .lss (.tmp 9) (.tmp 11), .some 12))] []) (.cond (.tmp 12) .skip (.exit 0))) (.seq (.block 1 (.seq
  (.reg [(none, (.mov (.tmp 0), .some 15)), (none, (.mov (.tmp 4), .some 16)), (none, (.bin .sub (.tmp 16) (.const (.int .i64 1)), .some 17)), (none, (.iadr 3 (.tmp 15) (.tmp 17), .some 18)), (none, (.load (.some 3) (.tmp 18), .some 19)), (none, (.call (.func 126) [.tmp 19], .some 20)), (none, (.mov (.tmp 20), .some 5))] []) (.seq
  (.reg [(none, (.mov (.tmp 5), .some 21)), (none, (.mov (.tmp 0), .some 22)), (none, (.mov (.tmp 4), .some 23)), (none, (.iadr 3 (.tmp 22) (.tmp 23), .some 24)), (none, (.fadr 0 (.tmp 24), .some 25)), (none, (.load none (.tmp 25), .some 26)), (none, (.bin .lss (.tmp 21) (.tmp 26), .some 27))] []) (.cond (.tmp 27)
  (.reg [(none, (.mov (.tmp 3), .some 28)), (none, (.mov (.tmp 5), .some 29)), (none, (.mov (.tmp 0), .some 30)), (none, (.mov (.tmp 4), .some 31)), (none, (.iadr 3 (.tmp 30) (.tmp 31), .some 32)), (none, (.fadr 0 (.tmp 32), .some 33)), (none, (.load none (.tmp 33), .some 34)), (none, (.build [.int .u64 0, .int .u64 0] [(0, (1, .tmp 29)), (1, (1, .tmp 34))], .some 35)), (none, (.bsl 2 [.tmp 35], .some 36)), (none, (.app 2 16 (.tmp 28) (.tmp 36), .some 37)), (none, (.mov (.tmp 37), .some 3))] []) .skip))))
  (.reg [(none, (.mov (.tmp 4), .some 13)), (none, (.bin .add (.tmp 13) (.const (.int .i64 1)), .some 14)), (none, (.mov (.tmp 14), .some 4))] [])))))) (.seq
  (.reg [(none, (.mov (.tmp 3), .some 38)), (none, (.mov (.tmp 38), .some 2))] []) .ret))))
theorem b88 : Try.f88.body.bind (compC Try.prog) = some c88 := by kernel_rfl
theorem r88 : compR Try.prog Try.f88 = .some [.tmp 2] := by kernel_rfl
theorem n88 : (Try.f88.name == "runtime.NumGoroutine") = false := by kernel_rfl
def c91 : C := .reg [(none, (.mov (.tmp 0), .some 4)), (none, (.mov (.tmp 1), .some 5)), (none, (.call (.func 65) [.tmp 5], .some 6)), (none, (.call (.func 90) [.tmp 4, .tmp 6], .some 7))] []
theorem b91 : Try.f91.body.bind (compC Try.prog) = some c91 := by kernel_rfl
theorem r91 : compR Try.prog Try.f91 = .some [] := by kernel_rfl
theorem n91 : (Try.f91.name == "runtime.NumGoroutine") = false := by kernel_rfl
def c102 : C := .seq
  (.reg [(none, (.mov (.const (.bool .false)), .some 2))] []) (.seq
  (.reg [(none, (.mov (.tmp 0), .some 3)), (none, (.eqp .true (.tmp 3) (.const (.pointer none)), .some 4)), (none, (.mov (.tmp 4), .some 5)), (.some (5, .true), (.mov (.tmp 0), .some 6)), (.some (5, .true), (.nilc (.tmp 6), .some 7)), (.some (5, .true), (.fadr 2 (.tmp 7), .some 8)), (.some (5, .true), (.load (.some 2) (.tmp 8), .some 9)), (.some (5, .true), (.call (.func 138) [.tmp 9], .some 10)), (none, (.pick (.tmp 5) (.tmp 10) (.const (.bool .false)), .some 11)), (none, (.mov (.tmp 11), .some 2))] []) .ret)
theorem b102 : Try.f102.body.bind (compC Try.prog) = some c102 := by kernel_rfl
theorem r102 : compR Try.prog Try.f102 = .some [.tmp 2] := by kernel_rfl
theorem n102 : (Try.f102.name == "runtime.NumGoroutine") = false := by kernel_rfl
def c114 : C := .seq
  (.reg [(none, (.mov (.const (.slice none 0 0)), .some 2))] []) (.seq
  (.reg [(none, (.mov (.const (.slice none 0 0)), .some 3))] []) (.seq
  (.reg [(none, (.mov (.const (.int .u64 0)), .some 4))] []) (.seq
  (.reg [(none, (.mov (.const (.int .i64 0)), .some 5))] []) (.seq (.seq
  (.reg [(none, (.mov (.tmp 0), .some 10)), (none, (.call (.func 87) [.tmp 10, .const (.int .i64 16)], .some 11)), (none, (.mov (.const (.int .i64 0)), .some 12))] []) (.block 0 (.loop (.seq
  (.reg [(none, (.bin .lss (.tmp 12) (.tmp 11), .some 13))] []) (.seq (.cond (.tmp 13) .skip (.exit 0)) (.seq (.block 1 (.seq
  (.reg [(none, (.mov (.tmp 0), .some 14)), (none, (.call (.func 79) [.tmp 14], .some 15)), (none, (.mov (.tmp 15), .some 6))] []) (.seq
  (.reg [(none, (.mov (.tmp 0), .some 16)), (none, (.call (.func 85) [.tmp 16], .some 17)), (none, (.mov (.tmp 17), .some 7))] []) (.seq
  (.reg [(none, (.mov (.tmp 0), .some 18)), (none, (.call (.func 87) [.tmp 18, .const (.int .i64 16)], .some 19)), (none, (.mov (.tmp 19), .some 8))] []) (.seq
  (.reg [(none, (.mov (.tmp 4), .some 20)), (none, (.mov (.tmp 7), .some 21)), (none, (.bin .add (.tmp 20) (.tmp 21), .some 22)), (none, (.mov (.tmp 8), .some 23)), (none, (.mov (.tmp 5), .some 24)), (none, (.bin .add (.tmp 24) (.const (.int .i64 1)), .some 25)), (none, (.mov (.tmp 0), .some 26)), (none, (.call (.func 87) [.tmp 26, .const (.int .i64 1099511627775)], .some 27)), (none, (.bin .add (.tmp 25) (.tmp 27), .some 28)), (none, (.build [.int .u64 0, .int .i64 0, .int .i64 0] [(0, (1, .tmp 22)), (1, (1, .tmp 23)), (2, (1, .tmp 28))], .some 29)), (none, (.new [.int .u64 0, .int .i64 0, .int .i64 0], .some 9)), (none, (.store 3 (.tmp 9) (.tmp 29), none))] []) (.seq (.seq
  (.reg [(none, (.mov (.tmp 7), .some 30)), (none, (.bin .geq (.tmp 30) (.const (.int .u64 4611686018427387904)), .some 31)), (none, (.mov (.tmp 31), .some 32)), (.some (32, .false), (.load (.some 3) (.tmp 9), .some 33)), (.some (32, .false), (.mov (.tmp 4), .some 34)), (.some (32, .false), (.mov (.tmp 5), .some 35)), (.some (32, .false), (.call (.func 141) [.tmp 33, .tmp 34, .tmp 35], .some 36)), (.some (32, .false), (.un .not (.tmp 36), .some 37)), (none, (.pick (.tmp 32) (.const (.bool .true)) (.tmp 37), .some 38))] []) (.cond (.tmp 38)
  (.reg [(none, (.mov (.tmp 0), .some 39)), (none, (.mov (.tmp 6), .some 40)), (none, (.call (.func 132) [.tmp 39, .const (.int .i64 3), .tmp 40], .some 41))] []) .skip)) (.seq (.seq
  (.reg [(none, (.mov (.tmp 0), .some 42)), (none, (.call (.func 102) [.tmp 42], .some 43)), (none, (.un .not (.tmp 43), .some 44))] []) (.cond (.tmp 44) (.seq
  (.reg [(none, (.mov (.const (.slice none 0 0)), .some 2))] []) .ret) .skip)) (.seq
  (.reg [(none, (.mov (.tmp 3), .some 45)), (none, (.load (.some 3) (.tmp 9), .some 46)), (none, (.bsl 3 [.tmp 46], .some 47)), (none, (.app 3 24 (.tmp 45) (.tmp 47), .some 48)), (none, (.mov (.tmp 48), .some 3))] [])
  (.reg [(none, (.load (.some 3) (.tmp 9), .some 49)), (none, (.call (.func 126) [.tmp 49], .some 50)), (none, (.fadr 2 (.tmp 9), .some 51)), (none, (.load none (.tmp 51), .some 52)), (none, (.mov (.tmp 50), .some 4)), (none, (.mov (.tmp 52), .some 5))] [(0, 3), (1, 3)])))))))))
  (.reg [(none, (.bin .add (.tmp 12) (.const (.int .i64 1)), .some 53)), (none, (.mov (.tmp 53), .some 12))] []))))))) (.seq
  (.reg [(none, (.mov (.tmp 3), .some 54)), (none, (.mov (.tmp 54), .some 2))] []) .ret)))))
theorem b114 : Try.f114.body.bind (compC Try.prog) = some c114 := by kernel_rfl
theorem r114 : compR Try.prog Try.f114 = .some [.tmp 2] := by kernel_rfl
theorem n114 : (Try.f114.name == "runtime.NumGoroutine") = false := by kernel_rfl
def c115 : C := .seq
  (.reg [(none, (.box (.tmp 0), .some 1)), (none, (.new [.slice none 0 0, .int .i64 0, .int .i64 0, .int .i64 0], .some 2)), (none, (.mov (.const (.slice none 0 0)), .some 3))] []) (.seq
  (.reg [(none, (.load (.some 4) (.tmp 1), .some 17)), (none, (.call (.func 84) [.tmp 17, .const (.int .i64 16)], .some 18)), (none, (.mov (.tmp 18), .some 16)), (none, (.ext (.tmp 16) 0, .some 19)), (none, (.ext (.tmp 16) 1, .some 20)), (none, (.new [.slice none 0 0, .int .i64 0, .int .i64 0, .int .i64 0], .some 4)), (none, (.store 4 (.tmp 4) (.tmp 19), none)), (none, (.mov (.tmp 20), .some 5))] []) (.seq
  (.reg [(none, (.mov (.const (.slice none 0 0)), .some 6))] []) (.seq
  (.reg [(none, (.mov (.const (.int .u64 0)), .some 7)), (none, (.mov (.const (.int .i64 0)), .some 8))] []) (.seq (.seq
  (.reg [(none, (.mov (.const (.int .i64 0)), .some 9))] []) (.block 0 (.loop (.seq (.seq
  (.reg [(none, (.mov (.tmp 9), .some 21)), (none, (.mov (.tmp 5), .some 22)), (none, (.bin .lss (.tmp 21) (.tmp 22), .some 23)), (none, (.mov (.tmp 23), .some 24)), (.some (24, .true), (.fadr 2 (.tmp 4), .some 25)), (.some (24, .true), (.fadr 0 (.tmp 25), .some 26)), (.some (24, .true), (.load none (.tmp 26), .some 27)), (.some (24, .true), (.bin .eql (.tmp 27) (.const (.int .i64 0)), .some 28)), (none, (.pick (.tmp 24) (.tmp 28) (.const (.bool .false)), .some 29))] []) (.cond (.tmp 29) .skip (.exit 0))) (.seq (.block 1 (.seq
  (.reg [(none, (.load (.some 4) (.tmp 4), .some 33)), (none, (.call (.func 82) [.tmp 33], .some 34)), (none, (.mov (.tmp 34), .some 32)), (none, (.ext (.tmp 32) 0, .some 35)), (none, (.ext (.tmp 32) 1, .some 36)), (none, (.new [.slice none 0 0, .int .i64 0, .int .i64 0, .int .i64 0], .some 10)), (none, (.store 4 (.tmp 10) (.tmp 35), none)), (none, (.mov (.tmp 36), .some 11))] []) (.seq
  (.reg [(none, (.load (.some 4) (.tmp 10), .some 38)), (none, (.call (.func 84) [.tmp 38, .const (.int .i64 16)], .some 39)), (none, (.mov (.tmp 39), .some 37)), (none, (.ext (.tmp 37) 0, .some 40)), (none, (.ext (.tmp 37) 1, .some 41)), (none, (.new [.slice none 0 0, .int .i64 0, .int .i64 0, .int .i64 0], .some 12)), (none, (.store 4 (.tmp 12) (.tmp 40), none)), (none, (.mov (.tmp 41), .some 13))] []) (.seq
  (.reg [(none, (.load (.some 4) (.tmp 12), .some 43)), (none, (.call (.func 84) [.tmp 43, .const (.int .i64 1099511627775)], .some 44)), (none, (.mov (.tmp 44), .some 42)), (none, (.ext (.tmp 42) 0, .some 45)), (none, (.ext (.tmp 42) 1, .some 46)), (none, (.new [.slice none 0 0, .int .i64 0, .int .i64 0, .int .i64 0], .some 14)), (none, (.store 4 (.tmp 14) (.tmp 45), none)), (none, (.mov (.tmp 46), .some 15))] []) (.seq (.seq
  (.reg [(none, (.fadr 2 (.tmp 14), .some 47)), (none, (.fadr 0 (.tmp 47), .some 48)), (none, (.load none (.tmp 48), .some 49)), (none, (.bin .eql (.tmp 49) (.const (.int .i64 0)), .some 50))] []) (.cond (.tmp 50) (.seq
  (.reg [(none, (.mov (.tmp 13), .some 51)), (none, (.bin .eql (.tmp 51) (.const (.int .i64 0)), .some 52)), (none, (.mov (.tmp 52), .some 53)), (.some (53, .false), (.mov (.tmp 11), .some 54)), (.some (53, .false), (.mov (.tmp 7), .some 55)), (.some (53, .false), (.bin .sub (.const (.int .u64 4611686018427387904)) (.tmp 55), .some 56)), (.some (53, .false), (.bin .gtr (.tmp 54) (.tmp 56), .some 57)), (none, (.pick (.tmp 53) (.const (.bool .true)) (.tmp 57), .some 58)), (none, (.mov (.tmp 58), .some 59)), (.some (59, .false), (.mov (.tmp 13), .some 60)), (.some (59, .false), (.cvt .u64 (.tmp 60), .some 61)), (.some (59, .false), (.mov (.tmp 7), .some 62)), (.some (59, .false), (.bin .sub (.const (.int .u64 4611686018427387904)) (.tmp 62), .some 63)), (.some (59, .false), (.mov (.tmp 11), .some 64)), (.some (59, .false), (.bin .sub (.tmp 63) (.tmp 64), .some 65)), (.some (59, .false), (.bin .gtr (.tmp 61) (.tmp 65), .some 66)), (none, (.pick (.tmp 59) (.const (.bool .true)) (.tmp 66), .some 67)), (none, (.mov (.tmp 67), .some 68)), (.some (68, .false), (.mov (.tmp 8), .some 69)), (.some (68, .false), (.mov (.tmp 15), .some 70)), (.some (68, .false), (.bin .add (.tmp 69) (.tmp 70), .some 71)), (.some (68, .false), (.bin .add (.tmp 71) (.const (.int .i64 1)), .some 72)), (.some (68, .false), (.bin .gtr (.tmp 72) (.const (.int .i64 1099511627775)), .some 73)), (none, (.pick (.tmp 68) (.const (.bool .true)) (.tmp 73), .some 74))] []) (.cond (.tmp 74)
  (.reg [(none, (.load (.some 4) (.tmp 14), .some 75)), (none, (.fadr 1 (.tmp 4), .some 76)), (none, (.load none (.tmp 76), .some 77)), (none, (.call (.func 129) [.tmp 75, .const (.int .i64 3), .tmp 77], .some 78)), (none, (.store 4 (.tmp 14) (.tmp 78), none))] []) .skip)) .skip)) (.seq
  (.reg [(none, (.mov (.tmp 6), .some 79)), (none, (.mov (.tmp 7), .some 80)), (none, (.mov (.tmp 11), .some 81)), (none, (.bin .add (.tmp 80) (.tmp 81), .some 82)), (none, (.mov (.tmp 13), .some 83)), (none, (.mov (.tmp 8), .some 84)), (none, (.mov (.tmp 15), .some 85)), (none, (.bin .add (.tmp 84) (.tmp 85), .some 86)), (none, (.bin .add (.tmp 86) (.const (.int .i64 1)), .some 87)), (none, (.build [.int .u64 0, .int .i64 0, .int .i64 0] [(0, (1, .tmp 82)), (1, (1, .tmp 83)), (2, (1, .tmp 87))], .some 88)), (none, (.bsl 3 [.tmp 88], .some 89)), (none, (.app 3 24 (.tmp 79) (.tmp 89), .some 90)), (none, (.mov (.tmp 90), .some 6))] []) (.seq
  (.reg [(none, (.mov (.tmp 7), .some 91)), (none, (.mov (.tmp 11), .some 92)), (none, (.bin .add (.tmp 91) (.tmp 92), .some 93)), (none, (.mov (.tmp 13), .some 94)), (none, (.cvt .u64 (.tmp 94), .some 95)), (none, (.bin .add (.tmp 93) (.tmp 95), .some 96)), (none, (.mov (.tmp 8), .some 97)), (none, (.mov (.tmp 15), .some 98)), (none, (.bin .add (.tmp 97) (.tmp 98), .some 99)), (none, (.bin .add (.tmp 99) (.const (.int .i64 1)), .some 100)), (none, (.mov (.tmp 96), .some 7)), (none, (.mov (.tmp 100), .some 8))] [])
  (.reg [(none, (.load (.some 4) (.tmp 14), .some 101)), (none, (.store 4 (.tmp 4) (.tmp 101), none))] []))))))))
  (.reg [(none, (.mov (.tmp 9), .some 30)), (none, (.bin .add (.tmp 30) (.const (.int .i64 1)), .some 31)), (none, (.mov (.tmp 31), .some 9))] [])))))) (.seq (.seq
  (.reg [(none, (.fadr 2 (.tmp 4), .some 102)), (none, (.fadr 0 (.tmp 102), .some 103)), (none, (.load none (.tmp 103), .some 104)), (none, (.bin .neq (.tmp 104) (.const (.int .i64 0)), .some 105))] []) (.cond (.tmp 105) (.seq
  (.reg [(none, (.load (.some 4) (.tmp 4), .some 106)), (none, (.store 4 (.tmp 2) (.tmp 106), none)), (none, (.mov (.const (.slice none 0 0)), .some 3))] []) .ret) .skip)) (.seq
  (.reg [(none, (.load (.some 4) (.tmp 4), .some 107)), (none, (.mov (.tmp 6), .some 108)), (none, (.store 4 (.tmp 2) (.tmp 107), none)), (none, (.mov (.tmp 108), .some 3))] []) .ret))))))
theorem b115 : Try.f115.body.bind (compC Try.prog) = some c115 := by kernel_rfl
theorem r115 : compR Try.prog Try.f115 = .some [.cell 2 (.some 4), .tmp 3] := by kernel_rfl
theorem n115 : (Try.f115.name == "runtime.NumGoroutine") = false := by kernel_rfl
def c126 : C := .seq
  (.reg [(none, (.box (.tmp 0), .some 1)), (none, (.mov (.const (.int .u64 0)), .some 2))] []) (.seq
  (.reg [(none, (.fadr 0 (.tmp 1), .some 3)), (none, (.load none (.tmp 3), .some 4)), (none, (.fadr 1 (.tmp 1), .some 5)), (none, (.load none (.tmp 5), .some 6)), (none, (.cvt .u64 (.tmp 6), .some 7)), (none, (.bin .add (.tmp 4) (.tmp 7), .some 8)), (none, (.mov (.tmp 8), .some 2))] []) .ret)
theorem b126 : Try.f126.body.bind (compC Try.prog) = some c126 := by kernel_rfl
theorem r126 : compR Try.prog Try.f126 = .some [.tmp 2] := by kernel_rfl
theorem n126 : (Try.f126.name == "runtime.NumGoroutine") = false := by kernel_rfl
def c136 : C := .seq
  (.reg [(none, (.mov (.const (.int .i64 0)), .some 2))] []) (.seq (.seq
  (.reg [(none, (.mov (.tmp 0), .some 3)), (none, (.eqp .false (.tmp 3) (.const (.pointer none)), .some 4))] []) (.cond (.tmp 4) (.seq
  (.reg [(none, (.mov (.const (.int .i64 0)), .some 2))] []) .ret) .skip)) (.seq
  (.reg [(none, (.mov (.tmp 0), .some 5)), (none, (.nilc (.tmp 5), .some 6)), (none, (.fadr 0 (.tmp 6), .some 7)), (none, (.load none (.tmp 7), .some 8)), (none, (.mov (.tmp 0), .some 9)), (none, (.nilc (.tmp 9), .some 10)), (none, (.fadr 1 (.tmp 10), .some 11)), (none, (.load none (.tmp 11), .some 12)), (none, (.len .false (.tmp 12), .some 13)), (none, (.bin .sub (.tmp 8) (.tmp 13), .some 14)), (none, (.mov (.tmp 14), .some 2))] [(3, 7)]) .ret))
theorem b136 : Try.f136.body.bind (compC Try.prog) = some c136 := by kernel_rfl
theorem r136 : compR Try.prog Try.f136 = .some [.tmp 2] := by kernel_rfl
theorem n136 : (Try.f136.name == "runtime.NumGoroutine") = false := by kernel_rfl
def c141 : C := .seq
  (.reg [(none, (.box (.tmp 0), .some 3)), (none, (.mov (.const (.bool .false)), .some 6))] []) (.seq
  (.reg [(none, (.fadr 1 (.tmp 3), .some 8)), (none, (.load none (.tmp 8), .some 9)), (none, (.bin .geq (.tmp 9) (.const (.int .i64 1)), .some 10)), (none, (.mov (.tmp 10), .some 11)), (.some (11, .true), (.fadr 1 (.tmp 3), .some 12)), (.some (11, .true), (.load none (.tmp 12), .some 13)), (.some (11, .true), (.bin .leq (.tmp 13) (.const (.int .i64 16)), .some 14)), (none, (.pick (.tmp 11) (.tmp 14) (.const (.bool .false)), .some 15)), (none, (.mov (.tmp 15), .some 7))] []) (.seq
  (.reg [(none, (.mov (.tmp 7), .some 16)), (none, (.mov (.tmp 16), .some 17)), (.some (17, .true), (.fadr 0 (.tmp 3), .some 18)), (.some (17, .true), (.load none (.tmp 18), .some 19)), (.some (17, .true), (.mov (.tmp 1), .some 20)), (.some (17, .true), (.bin .geq (.tmp 19) (.tmp 20), .some 21)), (none, (.pick (.tmp 17) (.tmp 21) (.const (.bool .false)), .some 22)), (none, (.mov (.tmp 22), .some 23)), (.some (23, .true), (.fadr 0 (.tmp 3), .some 24)), (.some (23, .true), (.load none (.tmp 24), .some 25)), (.some (23, .true), (.bin .lss (.tmp 25) (.const (.int .u64 4611686018427387904)), .some 26)), (none, (.pick (.tmp 23) (.tmp 26) (.const (.bool .false)), .some 27)), (none, (.mov (.tmp 27), .some 28)), (.some (28, .true), (.load (.some 3) (.tmp 3), .some 29)), (.some (28, .true), (.call (.func 126) [.tmp 29], .some 30)), (.some (28, .true), (.bin .leq (.tmp 30) (.const (.int .u64 4611686018427387904)), .some 31)), (none, (.pick (.tmp 28) (.tmp 31) (.const (.bool .false)), .some 32)), (none, (.mov (.tmp 32), .some 33)), (.some (33, .true), (.fadr 2 (.tmp 3), .some 34)), (.some (33, .true), (.load none (.tmp 34), .some 35)), (.some (33, .true), (.mov (.tmp 2), .some 36)), (.some (33, .true), (.bin .gtr (.tmp 35) (.tmp 36), .some 37)), (none, (.pick (.tmp 33) (.tmp 37) (.const (.bool .false)), .some 38)), (none, (.mov (.tmp 38), .some 39)), (.some (39, .true), (.fadr 2 (.tmp 3), .some 40)), (.some (39, .true), (.load none (.tmp 40), .some 41)), (.some (39, .true), (.bin .leq (.tmp 41) (.const (.int .i64 1099511627775)), .some 42)), (none, (.pick (.tmp 39) (.tmp 42) (.const (.bool .false)), .some 43)), (none, (.mov (.tmp 43), .some 6))] []) .ret))
theorem b141 : Try.f141.body.bind (compC Try.prog) = some c141 := by kernel_rfl
theorem r141 : compR Try.prog Try.f141 = .some [.tmp 6] := by kernel_rfl
theorem n141 : (Try.f141.name == "runtime.NumGoroutine") = false := by kernel_rfl
def c142 : C := .seq
  (.reg [(none, (.mov (.const (.bool .false)), .some 4))] []) (.seq (.seq
  (.reg [(none, (.mov (.tmp 0), .some 6)), (none, (.len .false (.tmp 6), .some 7)), (none, (.mov (.tmp 1), .some 8)), (none, (.len .false (.tmp 8), .some 9)), (none, (.bin .neq (.tmp 7) (.tmp 9), .some 10))] []) (.cond (.tmp 10) (.seq
  (.reg [(none, (.mov (.const (.bool .false)), .some 4))] []) .ret) .skip)) (.seq (.seq
  (.reg [(none, (.mov (.tmp 0), .some 11)), (none, (.len .false (.tmp 11), .some 12)), (none, (.mov (.const (.int .i64 0)), .some 13))] []) (.block 0 (.loop (.seq
  (.reg [(none, (.bin .lss (.tmp 13) (.tmp 12), .some 14))] []) (.seq (.cond (.tmp 14) .skip (.exit 0)) (.seq (.block 1 (.seq
  (.reg [(none, (.mov (.tmp 13), .some 15)), (none, (.mov (.tmp 15), .some 5))] []) (.seq
  (.reg [(none, (.mov (.tmp 0), .some 16)), (none, (.mov (.tmp 5), .some 17)), (none, (.iadr 3 (.tmp 16) (.tmp 17), .some 18)), (none, (.load (.some 3) (.tmp 18), .some 19)), (none, (.mov (.tmp 1), .some 20)), (none, (.mov (.tmp 5), .some 21)), (none, (.iadr 3 (.tmp 20) (.tmp 21), .some 22)), (none, (.load (.some 3) (.tmp 22), .some 23)), (none, (.eqa .true 3 (.tmp 19) (.tmp 23), .some 24))] [(3, 7)]) (.cond (.tmp 24) (.seq
  (.reg [(none, (.mov (.const (.bool .false)), .some 4))] []) .ret) .skip))))
  (.reg [(none, (.bin .add (.tmp 13) (.const (.int .i64 1)), .some 25)), (none, (.mov (.tmp 25), .some 13))] []))))))) (.seq
  (.reg [(none, (.mov (.const (.bool .true)), .some 4))] []) .ret)))
theorem b142 : Try.f142.body.bind (compC Try.prog) = some c142 := by kernel_rfl
theorem r142 : compR Try.prog Try.f142 = .some [.tmp 4] := by kernel_rfl
theorem n142 : (Try.f142.name == "runtime.NumGoroutine") = false := by kernel_rfl
end Go.Proofs.Ytgphhganepjaiaa
