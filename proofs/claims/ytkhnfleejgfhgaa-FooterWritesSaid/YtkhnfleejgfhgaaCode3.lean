/-
  The codes of the seat's functions over abstract values, each shown to be its function's own (by program: wip/tools/codes.py).
-/
import Derived.Test.YtkhnfleejgfhgaaA2
import Derived.Test.YtkhnfleejgfhgaaProg
import Derived.KernelRfl
namespace Go.Proofs.Ytkhnfleejgfhgaa
def c23 : C := .seq
  (.reg [(none, (.mov (.const (.bool .false)), .some 4))] []) (.seq
  (.reg [(none, (.mov (.tmp 0), .some 5)), (none, (.b2s (.tmp 5), .some 6)), (none, (.mov (.tmp 1), .some 7)), (none, (.b2s (.tmp 7), .some 8)), (none, (.bin .eql (.tmp 6) (.tmp 8), .some 9)), (none, (.mov (.tmp 9), .some 4))] []) .ret)
theorem b23 : Try.f23.body.bind (compC Try.prog) = some c23 := by kernel_rfl
theorem r23 : compR Try.prog Try.f23 = .some [.tmp 4] := by kernel_rfl
theorem n23 : (Try.f23.name == "runtime.NumGoroutine") = false := by kernel_rfl
def c33 : C := .seq
  (.reg [(none, (.new [.int .u64 0, .int .i64 0, .int .i64 0, .int .u64 0, .int .u64 0, .int .i64 0, .int .i64 0], .some 2)), (none, (.new [.int .i64 0, .int .i64 0], .some 3))] []) (.seq
  (.reg [(none, (.mov (.tmp 0), .some 7)), (none, (.call (.func 44) [.tmp 7], .some 8)), (none, (.mov (.tmp 8), .some 4))] []) (.seq (.seq
  (.reg [(none, (.mov (.tmp 4), .some 9)), (none, (.call (.func 96) [.tmp 9], .some 10)), (none, (.bin .neq (.tmp 10) (.const (.int .u8 3)), .some 11))] []) (.cond (.tmp 11)
  (.reg [(none, (.mov (.tmp 4), .some 12)), (none, (.call (.func 97) [.tmp 12, .const (.int .i64 7), .const (.int .i64 0)], .some 13))] []) .skip)) (.seq
  (.reg [(none, (.mov (.tmp 4), .some 14)), (none, (.call (.func 98) [.tmp 14], .some 15)), (none, (.build [.int .u64 0, .int .i64 0, .int .i64 0, .int .u64 0, .int .u64 0, .int .i64 0, .int .i64 0] [(0, (1, .tmp 15))], .some 16)), (none, (.new [.int .u64 0, .int .i64 0, .int .i64 0, .int .u64 0, .int .u64 0, .int .i64 0, .int .i64 0], .some 5)), (none, (.store 7 (.tmp 5) (.tmp 16), none))] []) (.seq
  (.reg [(none, (.mov (.tmp 4), .some 17)), (none, (.call (.func 99) [.tmp 17, .const (.int .i64 65536)], .some 18)), (none, (.mov (.tmp 4), .some 19)), (none, (.call (.func 99) [.tmp 19, .const (.int .i64 65536)], .some 20)), (none, (.fadr 1 (.tmp 5), .some 21)), (none, (.store 1 (.tmp 21) (.tmp 18), none)), (none, (.fadr 2 (.tmp 5), .some 22)), (none, (.store 1 (.tmp 22) (.tmp 20), none))] []) (.seq
  (.reg [(none, (.mov (.tmp 4), .some 23)), (none, (.call (.func 100) [.tmp 23], .some 24)), (none, (.mov (.tmp 4), .some 25)), (none, (.call (.func 100) [.tmp 25], .some 26)), (none, (.fadr 3 (.tmp 5), .some 27)), (none, (.store 1 (.tmp 27) (.tmp 24), none)), (none, (.fadr 4 (.tmp 5), .some 28)), (none, (.store 1 (.tmp 28) (.tmp 26), none))] []) (.seq
  (.reg [(none, (.mov (.tmp 4), .some 29)), (none, (.call (.func 99) [.tmp 29, .const (.int .i64 1099511627776)], .some 30)), (none, (.mov (.tmp 4), .some 31)), (none, (.call (.func 99) [.tmp 31, .const (.int .i64 1099511627776)], .some 32)), (none, (.fadr 5 (.tmp 5), .some 33)), (none, (.store 1 (.tmp 33) (.tmp 30), none)), (none, (.fadr 6 (.tmp 5), .some 34)), (none, (.store 1 (.tmp 34) (.tmp 32), none))] []) (.seq (.seq
  (.reg [(none, (.load (.some 7) (.tmp 5), .some 35)), (none, (.call (.func 90) [.tmp 35], .some 36)), (none, (.un .not (.tmp 36), .some 37))] []) (.cond (.tmp 37)
  (.reg [(none, (.mov (.tmp 4), .some 38)), (none, (.call (.func 97) [.tmp 38, .const (.int .i64 3), .const (.int .i64 0)], .some 39))] []) .skip)) (.seq
  (.reg [(none, (.mov (.tmp 4), .some 40)), (none, (.call (.func 101) [.tmp 40], .some 41))] []) (.seq (.seq
  (.reg [(none, (.mov (.tmp 4), .some 42)), (none, (.call (.func 48) [.tmp 42], .some 43)), (none, (.new [.int .i64 0, .int .i64 0], .some 6)), (none, (.store 2 (.tmp 6) (.tmp 43), none))] []) (.seq
  (.reg [(none, (.load (.some 2) (.tmp 6), .some 44)), (none, (.call (.func 102) [.tmp 44], .some 45)), (none, (.un .not (.tmp 45), .some 46))] []) (.cond (.tmp 46) (.seq
  (.reg [(none, (.build [.int .u64 0, .int .i64 0, .int .i64 0, .int .u64 0, .int .u64 0, .int .i64 0, .int .i64 0] [], .some 47)), (none, (.load (.some 2) (.tmp 6), .some 48)), (none, (.store 7 (.tmp 2) (.tmp 47), none)), (none, (.store 2 (.tmp 3) (.tmp 48), none))] [(1, 2)]) .ret) .skip))) (.seq
  (.reg [(none, (.load (.some 7) (.tmp 5), .some 49)), (none, (.build [.int .i64 0, .int .i64 0] [], .some 50)), (none, (.store 7 (.tmp 2) (.tmp 49), none)), (none, (.store 2 (.tmp 3) (.tmp 50), none))] []) .ret))))))))))
theorem b33 : Try.f33.body.bind (compC Try.prog) = some c33 := by kernel_rfl
theorem r33 : compR Try.prog Try.f33 = .some [.cell 2 (.some 7), .cell 3 (.some 2)] := by kernel_rfl
theorem n33 : (Try.f33.name == "runtime.NumGoroutine") = false := by kernel_rfl
def c37 : C := .seq
  (.reg [(none, (.box (.tmp 0), .some 1)), (none, (.mov (.const (.slice none 0 0)), .some 2))] []) (.seq
  (.reg [(none, (.bsl 1 [.const (.int .u8 3)], .some 6)), (none, (.fadr 0 (.tmp 1), .some 7)), (none, (.load none (.tmp 7), .some 8)), (none, (.call (.func 110) [.tmp 8], .some 9)), (none, (.app 1 1 (.tmp 6) (.tmp 9), .some 10)), (none, (.mov (.tmp 10), .some 3))] []) (.seq
  (.reg [(none, (.fadr 1 (.tmp 1), .some 11)), (none, (.load none (.tmp 11), .some 12)), (none, (.cvt .u64 (.tmp 12), .some 13)), (none, (.fadr 2 (.tmp 1), .some 14)), (none, (.load none (.tmp 14), .some 15)), (none, (.cvt .u64 (.tmp 15), .some 16)), (none, (.fadr 3 (.tmp 1), .some 17)), (none, (.load none (.tmp 17), .some 18)), (none, (.fadr 4 (.tmp 1), .some 19)), (none, (.load none (.tmp 19), .some 20)), (none, (.fadr 5 (.tmp 1), .some 21)), (none, (.load none (.tmp 21), .some 22)), (none, (.cvt .u64 (.tmp 22), .some 23)), (none, (.fadr 6 (.tmp 1), .some 24)), (none, (.load none (.tmp 24), .some 25)), (none, (.cvt .u64 (.tmp 25), .some 26)), (none, (.bsl 1 [.tmp 13, .tmp 16, .tmp 18, .tmp 20, .tmp 23, .tmp 26], .some 27)), (none, (.mov (.tmp 27), .some 4))] []) (.seq (.seq
  (.reg [(none, (.mov (.const (.int .i64 0)), .some 5))] []) (.block 0 (.loop (.seq (.seq
  (.reg [(none, (.mov (.tmp 5), .some 28)), (none, (.mov (.tmp 4), .some 29)), (none, (.len .false (.tmp 29), .some 30)), (none, (.bin .lss (.tmp 28) (.tmp 30), .some 31))] []) (.cond (.tmp 31) .skip (.exit 0))) (.seq (.block 1
  (.reg [(none, (.mov (.tmp 3), .some 34)), (none, (.mov (.tmp 4), .some 35)), (none, (.mov (.tmp 5), .some 36)), (none, (.iadr 1 (.tmp 35) (.tmp 36), .some 37)), (none, (.load none (.tmp 37), .some 38)), (none, (.call (.func 110) [.tmp 38], .some 39)), (none, (.app 1 1 (.tmp 34) (.tmp 39), .some 40)), (none, (.mov (.tmp 40), .some 3))] []))
  (.reg [(none, (.mov (.tmp 5), .some 32)), (none, (.bin .add (.tmp 32) (.const (.int .i64 1)), .some 33)), (none, (.mov (.tmp 33), .some 5))] [])))))) (.seq
  (.reg [(none, (.mov (.tmp 3), .some 41)), (none, (.mov (.tmp 41), .some 2))] []) .ret))))
theorem b37 : Try.f37.body.bind (compC Try.prog) = some c37 := by kernel_rfl
theorem r37 : compR Try.prog Try.f37 = .some [.tmp 2] := by kernel_rfl
theorem n37 : (Try.f37.name == "runtime.NumGoroutine") = false := by kernel_rfl
def c91 : C := .seq
  (.reg [(none, (.mov (.const (.slice none 0 0)), .some 2))] []) (.seq
  (.reg [(none, (.call (.func 95) [], .some 7)), (none, (.call (.func 53) [.tmp 7], .some 8)), (none, (.mov (.tmp 8), .some 3))] []) (.seq
  (.reg [(none, (.mov (.tmp 0), .some 9)), (none, (.cvt .u64 (.tmp 9), .some 10)), (none, (.call (.func 162) [.tmp 10, .const (.int .i64 4)], .some 11)), (none, (.mov (.tmp 11), .some 4))] []) (.seq
  (.reg [(none, (.mov (.tmp 3), .some 12)), (none, (.mov (.tmp 4), .some 13)), (none, (.call (.func 140) [.tmp 12, .tmp 13], .some 14))] []) (.seq
  (.reg [(none, (.mov (.tmp 3), .some 15)), (none, (.mov (.tmp 4), .some 16)), (none, (.call (.func 142) [.tmp 16], .some 17)), (none, (.cvt .u64 (.tmp 17), .some 18)), (none, (.call (.func 141) [.tmp 15, .tmp 18, .const (.int .i64 4)], .some 19))] []) (.seq
  (.reg [(none, (.mov (.tmp 3), .some 20)), (none, (.call (.func 163) [.tmp 20, .const (.string (.mk (#[76, 79, 72, 84])))], .some 21))] []) (.seq
  (.reg [(none, (.mov (.tmp 3), .some 23)), (none, (.call (.func 55) [.tmp 23], .some 24)), (none, (.mov (.tmp 24), .some 22)), (none, (.ext (.tmp 22) 0, .some 25)), (none, (.ext (.tmp 22) 1, .some 26)), (none, (.mov (.tmp 25), .some 5)), (none, (.mov (.tmp 26), .some 6))] []) (.seq
  (.reg [(none, (.mov (.tmp 5), .some 27)), (none, (.mov (.tmp 27), .some 2))] []) .ret)))))))
theorem b91 : Try.f91.body.bind (compC Try.prog) = some c91 := by kernel_rfl
theorem r91 : compR Try.prog Try.f91 = .some [.tmp 2] := by kernel_rfl
theorem n91 : (Try.f91.name == "runtime.NumGoroutine") = false := by kernel_rfl
def c97 : C := .seq
  (.reg [(none, (.mov (.tmp 0), .some 6)), (none, (.call (.func 57) [.tmp 6], .some 7))] []) (.cond (.tmp 7)
  (.reg [(none, (.mov (.tmp 0), .some 8)), (none, (.mov (.tmp 1), .some 9)), (none, (.mov (.tmp 2), .some 10)), (none, (.call (.func 124) [.tmp 9, .tmp 10], .some 11)), (none, (.nilc (.tmp 8), .some 12)), (none, (.fadr 2 (.tmp 12), .some 13)), (none, (.store 2 (.tmp 13) (.tmp 11), none))] []) .skip)
theorem b97 : Try.f97.body.bind (compC Try.prog) = some c97 := by kernel_rfl
theorem r97 : compR Try.prog Try.f97 = .some [] := by kernel_rfl
theorem n97 : (Try.f97.name == "runtime.NumGoroutine") = false := by kernel_rfl
def c109 : C := .seq
  (.reg [(none, (.mov (.const (.bool .false)), .some 2))] []) (.seq
  (.reg [(none, (.mov (.tmp 0), .some 3)), (none, (.bin .gtr (.tmp 3) (.const (.int .u64 0)), .some 4)), (none, (.mov (.tmp 4), .some 5)), (.some (5, .true), (.mov (.tmp 0), .some 6)), (.some (5, .true), (.bin .leq (.tmp 6) (.const (.int .u64 4611686018427387903)), .some 7)), (none, (.pick (.tmp 5) (.tmp 7) (.const (.bool .false)), .some 8)), (none, (.mov (.tmp 8), .some 2))] []) .ret)
theorem b109 : Try.f109.body.bind (compC Try.prog) = some c109 := by kernel_rfl
theorem r109 : compR Try.prog Try.f109 = .some [.tmp 2] := by kernel_rfl
theorem n109 : (Try.f109.name == "runtime.NumGoroutine") = false := by kernel_rfl
def c110 : C := .seq
  (.reg [(none, (.mov (.const (.slice none 0 0)), .some 2))] []) (.seq (.seq
  (.reg [(none, (.mov (.tmp 0), .some 3)), (none, (.bin .lss (.tmp 3) (.const (.int .u64 128)), .some 4))] []) (.cond (.tmp 4) (.seq
  (.reg [(none, (.mov (.tmp 0), .some 5)), (none, (.cvt .u8 (.tmp 5), .some 6)), (none, (.bsl 1 [.tmp 6], .some 7)), (none, (.mov (.tmp 7), .some 2))] []) .ret) .skip)) (.seq
  (.reg [(none, (.mov (.tmp 0), .some 8)), (none, (.bin .rem (.tmp 8) (.const (.int .u64 128)), .some 9)), (none, (.bin .add (.const (.int .u64 128)) (.tmp 9), .some 10)), (none, (.cvt .u8 (.tmp 10), .some 11)), (none, (.bsl 1 [.tmp 11], .some 12)), (none, (.mov (.tmp 0), .some 13)), (none, (.bin .quo (.tmp 13) (.const (.int .u64 128)), .some 14)), (none, (.call (.func 110) [.tmp 14], .some 15)), (none, (.app 1 1 (.tmp 12) (.tmp 15), .some 16)), (none, (.mov (.tmp 16), .some 2))] []) .ret))
theorem b110 : Try.f110.body.bind (compC Try.prog) = some c110 := by kernel_rfl
theorem r110 : compR Try.prog Try.f110 = .some [.tmp 2] := by kernel_rfl
theorem n110 : (Try.f110.name == "runtime.NumGoroutine") = false := by kernel_rfl
def c130 : C := .seq
  (.reg [(none, (.mov (.const (.int .i64 0)), .some 2))] []) (.seq (.seq
  (.reg [(none, (.mov (.tmp 0), .some 3)), (none, (.eqp .false (.tmp 3) (.const (.pointer none)), .some 4))] []) (.cond (.tmp 4) (.seq
  (.reg [(none, (.mov (.const (.int .i64 19)), .some 2))] []) .ret) .skip)) (.seq
  (.reg [(none, (.mov (.tmp 0), .some 5)), (none, (.nilc (.tmp 5), .some 6)), (none, (.fadr 2 (.tmp 6), .some 7)), (none, (.load none (.tmp 7), .some 8)), (none, (.mov (.tmp 8), .some 2))] []) .ret))
theorem b130 : Try.f130.body.bind (compC Try.prog) = some c130 := by kernel_rfl
theorem r130 : compR Try.prog Try.f130 = .some [.tmp 2] := by kernel_rfl
theorem n130 : (Try.f130.name == "runtime.NumGoroutine") = false := by kernel_rfl
def c131 : C := .seq
  (.reg [(none, (.mov (.const (.int .i64 0)), .some 2))] []) (.seq
  (.reg [(none, (.mov (.const (.int .i64 1)), .some 3))] []) (.seq (.block 0 (.loop (.seq (.seq
  (.reg [(none, (.mov (.tmp 0), .some 4)), (none, (.bin .geq (.tmp 4) (.const (.int .u64 128)), .some 5))] []) (.cond (.tmp 5) .skip (.exit 0))) (.block 1 (.seq
  (.reg [(none, (.mov (.tmp 0), .some 6)), (none, (.bin .shr (.tmp 6) (.const (.int .u64 7)), .some 7)), (none, (.mov (.tmp 7), .some 0))] [])
  (.reg [(none, (.mov (.tmp 3), .some 8)), (none, (.bin .add (.tmp 8) (.const (.int .i64 1)), .some 9)), (none, (.mov (.tmp 9), .some 3))] [])))))) (.seq
  (.reg [(none, (.mov (.tmp 3), .some 10)), (none, (.mov (.tmp 10), .some 2))] []) .ret)))
theorem b131 : Try.f131.body.bind (compC Try.prog) = some c131 := by kernel_rfl
theorem r131 : compR Try.prog Try.f131 = .some [.tmp 2] := by kernel_rfl
theorem n131 : (Try.f131.name == "runtime.NumGoroutine") = false := by kernel_rfl
def c148 : C := .seq
  (.reg [(none, (.mov (.const (.int .u32 0)), .some 2))] []) (.seq
  (.reg [(none, (.mov (.tmp 0), .some 3)), (none, (.call (.func 179) [.const (.int .u32 4294967295), .tmp 3], .some 4)), (none, (.bin .sub (.const (.int .u32 4294967295)) (.tmp 4), .some 5)), (none, (.mov (.tmp 5), .some 2))] []) .ret)
theorem b148 : Try.f148.body.bind (compC Try.prog) = some c148 := by kernel_rfl
theorem r148 : compR Try.prog Try.f148 = .some [.tmp 2] := by kernel_rfl
theorem n148 : (Try.f148.name == "runtime.NumGoroutine") = false := by kernel_rfl
def c150 : C := .seq
  (.reg [(none, (.mov (.const (.int .i64 0)), .some 2))] []) (.seq (.seq
  (.reg [(none, (.mov (.tmp 0), .some 3)), (none, (.eqp .false (.tmp 3) (.const (.pointer none)), .some 4))] []) (.cond (.tmp 4) (.seq
  (.reg [(none, (.mov (.const (.int .i64 0)), .some 2))] []) .ret) .skip)) (.seq
  (.reg [(none, (.mov (.tmp 0), .some 5)), (none, (.nilc (.tmp 5), .some 6)), (none, (.fadr 0 (.tmp 6), .some 7)), (none, (.load none (.tmp 7), .some 8)), (none, (.len .false (.tmp 8), .some 9)), (none, (.mov (.tmp 0), .some 10)), (none, (.nilc (.tmp 10), .some 11)), (none, (.fadr 1 (.tmp 11), .some 12)), (none, (.load none (.tmp 12), .some 13)), (none, (.bin .sub (.tmp 9) (.tmp 13), .some 14)), (none, (.mov (.tmp 14), .some 2))] [(3, 8)]) .ret))
theorem b150 : Try.f150.body.bind (compC Try.prog) = some c150 := by kernel_rfl
theorem r150 : compR Try.prog Try.f150 = .some [.tmp 2] := by kernel_rfl
theorem n150 : (Try.f150.name == "runtime.NumGoroutine") = false := by kernel_rfl
def c152 : C := .seq
  (.reg [(none, (.mov (.const (.int .u64 0)), .some 4))] []) (.seq
  (.reg [(none, (.mov (.const (.int .u64 0)), .some 5))] []) (.seq (.seq
  (.reg [(none, (.mov (.tmp 0), .some 8)), (none, (.mov (.tmp 1), .some 9)), (none, (.mx .true (.tmp 9) (.const (.int .i64 0)), .some 10)), (none, (.mx .false (.tmp 10) (.const (.int .i64 8)), .some 11)), (none, (.call (.func 178) [.tmp 8, .tmp 11], .some 12)), (none, (.len .false (.tmp 12), .some 13)), (none, (.mov (.const (.int .i64 0)), .some 14))] []) (.block 0 (.loop (.seq
  (.reg [(none, (.bin .lss (.tmp 14) (.tmp 13), .some 15))] []) (.seq (.cond (.tmp 15) .skip (.exit 0)) (.seq (.block 1 (.seq
  (.reg [(none, (.mov (.tmp 14), .some 16)), (none, (.iadr 1 (.tmp 12) (.tmp 14), .some 17)), (none, (.load none (.tmp 17), .some 18)), (none, (.mov (.tmp 16), .some 6)), (none, (.mov (.tmp 18), .some 7))] [])
  (.reg [(none, (.mov (.tmp 5), .some 19)), (none, (.mov (.tmp 7), .some 20)), (none, (.cvt .u64 (.tmp 20), .some 21)), (none, (.mov (.tmp 6), .some 22)), (none, (.bin .mul (.const (.int .i64 8)) (.tmp 22), .some 23)), (none, (.bin .shl (.tmp 21) (.tmp 23), .some 24)), (none, (.bin .or (.tmp 19) (.tmp 24), .some 25)), (none, (.mov (.tmp 25), .some 5))] [])))
  (.reg [(none, (.bin .add (.tmp 14) (.const (.int .i64 1)), .some 26)), (none, (.mov (.tmp 26), .some 14))] []))))))) (.seq
  (.reg [(none, (.mov (.tmp 5), .some 27)), (none, (.mov (.tmp 27), .some 4))] []) .ret)))
theorem b152 : Try.f152.body.bind (compC Try.prog) = some c152 := by kernel_rfl
theorem r152 : compR Try.prog Try.f152 = .some [.tmp 4] := by kernel_rfl
theorem n152 : (Try.f152.name == "runtime.NumGoroutine") = false := by kernel_rfl
def c153 : C := .seq
  (.reg [(none, (.mov (.const (.int .i64 0)), .some 2)), (none, (.new [.int .i64 0, .int .i64 0], .some 3))] []) (.seq
  (.reg [(none, (.mov (.tmp 0), .some 11)), (none, (.len .false (.tmp 11), .some 12)), (none, (.mov (.tmp 12), .some 4))] []) (.seq (.seq
  (.reg [(none, (.mov (.tmp 4), .some 13)), (none, (.call (.func 95) [], .some 14)), (none, (.bin .lss (.tmp 13) (.tmp 14), .some 15))] []) (.cond (.tmp 15) (.seq
  (.reg [(none, (.mov (.tmp 4), .some 16)), (none, (.call (.func 124) [.const (.int .i64 1), .tmp 16], .some 17)), (none, (.mov (.const (.int .i64 0)), .some 2)), (none, (.store 2 (.tmp 3) (.tmp 17), none))] []) .ret) .skip)) (.seq
  (.reg [(none, (.mov (.tmp 0), .some 18)), (none, (.call (.func 44) [.tmp 18], .some 19)), (none, (.mov (.tmp 19), .some 5))] []) (.seq
  (.reg [(none, (.mov (.tmp 4), .some 20)), (none, (.call (.func 95) [], .some 21)), (none, (.bin .sub (.tmp 20) (.tmp 21), .some 22)), (none, (.mov (.tmp 22), .some 6))] []) (.seq
  (.reg [(none, (.mov (.tmp 5), .some 23)), (none, (.mov (.tmp 6), .some 24)), (none, (.call (.func 78) [.tmp 23, .tmp 24], .some 25))] []) (.seq
  (.reg [(none, (.mov (.tmp 5), .some 26)), (none, (.call (.func 180) [.tmp 26, .const (.int .i64 4)], .some 27)), (none, (.mov (.tmp 27), .some 7))] []) (.seq
  (.reg [(none, (.mov (.tmp 7), .some 28)), (none, (.call (.func 178) [.tmp 28, .const (.int .i64 4)], .some 29)), (none, (.call (.func 142) [.tmp 29], .some 30)), (none, (.mov (.tmp 30), .some 8))] []) (.seq
  (.reg [(none, (.mov (.tmp 5), .some 31)), (none, (.call (.func 152) [.tmp 31, .const (.int .i64 4)], .some 32)), (none, (.mov (.tmp 32), .some 9))] []) (.seq
  (.reg [(none, (.mov (.tmp 5), .some 33)), (none, (.call (.func 152) [.tmp 33, .const (.int .i64 4)], .some 34)), (none, (.mov (.tmp 34), .some 10))] []) (.seq (.block 0 (.seq
  (.reg [(none, (.mov (.tmp 5), .some 36)), (none, (.call (.func 178) [.tmp 36, .const (.int .i64 4)], .some 37)), (none, (.b2s (.tmp 37), .some 38)), (none, (.bin .neq (.tmp 38) (.const (.string (.mk (#[76, 79, 72, 84])))), .some 39)), (none, (.mov (.tmp 39), .some 35))] []) (.cond (.tmp 35) (.seq
  (.reg [(none, (.mov (.tmp 4), .some 40)), (none, (.bin .sub (.tmp 40) (.const (.int .i64 4)), .some 41)), (none, (.call (.func 124) [.const (.int .i64 14), .tmp 41], .some 42)), (none, (.mov (.const (.int .i64 0)), .some 2)), (none, (.store 2 (.tmp 3) (.tmp 42), none))] []) .ret) (.seq
  (.reg [(none, (.mov (.tmp 10), .some 44)), (none, (.mov (.tmp 8), .some 45)), (none, (.cvt .u64 (.tmp 45), .some 46)), (none, (.bin .neq (.tmp 44) (.tmp 46), .some 47)), (none, (.mov (.tmp 47), .some 43))] []) (.cond (.tmp 43) (.seq
  (.reg [(none, (.mov (.tmp 4), .some 48)), (none, (.bin .sub (.tmp 48) (.const (.int .i64 4)), .some 49)), (none, (.bin .sub (.tmp 49) (.const (.int .i64 4)), .some 50)), (none, (.call (.func 124) [.const (.int .i64 6), .tmp 50], .some 51)), (none, (.mov (.const (.int .i64 0)), .some 2)), (none, (.store 2 (.tmp 3) (.tmp 51), none))] []) .ret) (.seq
  (.reg [(none, (.mov (.tmp 9), .some 53)), (none, (.mov (.tmp 6), .some 54)), (none, (.cvt .u64 (.tmp 54), .some 55)), (none, (.bin .gtr (.tmp 53) (.tmp 55), .some 56)), (none, (.mov (.tmp 56), .some 52))] []) (.cond (.tmp 52) (.seq
  (.reg [(none, (.mov (.tmp 6), .some 57)), (none, (.call (.func 124) [.const (.int .i64 3), .tmp 57], .some 58)), (none, (.mov (.const (.int .i64 0)), .some 2)), (none, (.store 2 (.tmp 3) (.tmp 58), none))] []) .ret) .skip))))))) (.seq
  (.reg [(none, (.mov (.tmp 9), .some 59)), (none, (.cvt .i64 (.tmp 59), .some 60)), (none, (.build [.int .i64 0, .int .i64 0] [], .some 61)), (none, (.mov (.tmp 60), .some 2)), (none, (.store 2 (.tmp 3) (.tmp 61), none))] []) .ret)))))))))))
theorem b153 : Try.f153.body.bind (compC Try.prog) = some c153 := by kernel_rfl
theorem r153 : compR Try.prog Try.f153 = .some [.tmp 2, .cell 3 (.some 2)] := by kernel_rfl
theorem n153 : (Try.f153.name == "runtime.NumGoroutine") = false := by kernel_rfl
def c161 : C := .seq
  (.reg [(none, (.box (.tmp 0), .some 1)), (none, (.mov (.const (.bool .false)), .some 2))] []) (.seq (.seq
  (.reg [(none, (.fadr 1 (.tmp 1), .some 3)), (none, (.load none (.tmp 3), .some 4)), (none, (.bin .eql (.tmp 4) (.const (.int .i64 0)), .some 5))] []) (.cond (.tmp 5) (.seq
  (.reg [(none, (.fadr 3 (.tmp 1), .some 6)), (none, (.load none (.tmp 6), .some 7)), (none, (.bin .eql (.tmp 7) (.const (.int .u64 0)), .some 8)), (none, (.mov (.tmp 8), .some 9)), (.some (9, .true), (.fadr 4 (.tmp 1), .some 10)), (.some (9, .true), (.load none (.tmp 10), .some 11)), (.some (9, .true), (.bin .eql (.tmp 11) (.const (.int .u64 0)), .some 12)), (none, (.pick (.tmp 9) (.tmp 12) (.const (.bool .false)), .some 13)), (none, (.mov (.tmp 13), .some 2))] []) .ret) .skip)) (.seq
  (.reg [(none, (.fadr 3 (.tmp 1), .some 14)), (none, (.load none (.tmp 14), .some 15)), (none, (.fadr 4 (.tmp 1), .some 16)), (none, (.load none (.tmp 16), .some 17)), (none, (.bin .lss (.tmp 15) (.tmp 17), .some 18)), (none, (.mov (.tmp 18), .some 19)), (.some (19, .true), (.fadr 4 (.tmp 1), .some 20)), (.some (19, .true), (.load none (.tmp 20), .some 21)), (.some (19, .true), (.bin .leq (.tmp 21) (.const (.int .u64 4611686018427387904)), .some 22)), (none, (.pick (.tmp 19) (.tmp 22) (.const (.bool .false)), .some 23)), (none, (.mov (.tmp 23), .some 24)), (.some (24, .true), (.fadr 4 (.tmp 1), .some 25)), (.some (24, .true), (.load none (.tmp 25), .some 26)), (.some (24, .true), (.fadr 3 (.tmp 1), .some 27)), (.some (24, .true), (.load none (.tmp 27), .some 28)), (.some (24, .true), (.bin .sub (.tmp 26) (.tmp 28), .some 29)), (.some (24, .true), (.fadr 2 (.tmp 1), .some 30)), (.some (24, .true), (.load none (.tmp 30), .some 31)), (.some (24, .true), (.cvt .u64 (.tmp 31), .some 32)), (.some (24, .true), (.bin .geq (.tmp 29) (.tmp 32), .some 33)), (none, (.pick (.tmp 24) (.tmp 33) (.const (.bool .false)), .some 34)), (none, (.mov (.tmp 34), .some 2))] []) .ret))
theorem b161 : Try.f161.body.bind (compC Try.prog) = some c161 := by kernel_rfl
theorem r161 : compR Try.prog Try.f161 = .some [.tmp 2] := by kernel_rfl
theorem n161 : (Try.f161.name == "runtime.NumGoroutine") = false := by kernel_rfl
def c164 : C := .seq
  (.reg [(none, (.mov (.const (.int .u64 0)), .some 4))] []) (.seq
  (.reg [(none, (.mov (.tmp 0), .some 7)), (none, (.call (.func 49) [.tmp 7], .some 8)), (none, (.mov (.tmp 8), .some 5))] []) (.seq
  (.reg [(none, (.mov (.tmp 0), .some 9)), (none, (.call (.func 100) [.tmp 9], .some 10)), (none, (.mov (.tmp 10), .some 6))] []) (.seq (.seq
  (.reg [(none, (.mov (.tmp 1), .some 11)), (none, (.mov (.tmp 6), .some 12)), (none, (.call (.tmp 11) [.tmp 12], .some 13)), (none, (.un .not (.tmp 13), .some 14))] []) (.cond (.tmp 14)
  (.reg [(none, (.mov (.tmp 0), .some 15)), (none, (.mov (.tmp 5), .some 16)), (none, (.call (.func 97) [.tmp 15, .const (.int .i64 3), .tmp 16], .some 17))] []) .skip)) (.seq (.seq
  (.reg [(none, (.mov (.tmp 0), .some 18)), (none, (.call (.func 57) [.tmp 18], .some 19)), (none, (.un .not (.tmp 19), .some 20))] []) (.cond (.tmp 20) (.seq
  (.reg [(none, (.mov (.const (.int .u64 0)), .some 4))] []) .ret) .skip)) (.seq
  (.reg [(none, (.mov (.tmp 6), .some 21)), (none, (.mov (.tmp 21), .some 4))] []) .ret)))))
theorem b164 : Try.f164.body.bind (compC Try.prog) = some c164 := by kernel_rfl
theorem r164 : compR Try.prog Try.f164 = .some [.tmp 4] := by kernel_rfl
theorem n164 : (Try.f164.name == "runtime.NumGoroutine") = false := by kernel_rfl
def c175 : C := .seq
  (.reg [(none, (.mov (.const (.int .u32 0)), .some 2))] []) (.seq
  (.reg [(none, (.mov (.tmp 0), .some 3)), (none, (.un .xor (.tmp 3), .some 4)), (none, (.mov (.tmp 4), .some 2))] []) .ret)
theorem b175 : Try.f175.body.bind (compC Try.prog) = some c175 := by kernel_rfl
theorem r175 : compR Try.prog Try.f175 = .some [.tmp 2] := by kernel_rfl
theorem n175 : (Try.f175.name == "runtime.NumGoroutine") = false := by kernel_rfl
def c178 : C := .seq
  (.reg [(none, (.mov (.const (.slice none 0 0)), .some 4))] []) (.seq (.seq
  (.reg [(none, (.mov (.tmp 0), .some 5)), (none, (.mov (.tmp 1), .some 6)), (none, (.call (.func 78) [.tmp 5, .tmp 6], .some 7)), (none, (.un .not (.tmp 7), .some 8))] []) (.cond (.tmp 8) (.seq
  (.reg [(none, (.mov (.const (.slice none 0 0)), .some 4))] []) .ret) .skip)) (.seq
  (.reg [(none, (.bsl 1 [], .some 9)), (none, (.mov (.tmp 0), .some 10)), (none, (.nilc (.tmp 10), .some 11)), (none, (.fadr 0 (.tmp 11), .some 12)), (none, (.load none (.tmp 12), .some 13)), (none, (.mov (.tmp 0), .some 14)), (none, (.nilc (.tmp 14), .some 15)), (none, (.fadr 1 (.tmp 15), .some 16)), (none, (.load none (.tmp 16), .some 17)), (none, (.mov (.tmp 1), .some 18)), (none, (.bin .sub (.tmp 17) (.tmp 18), .some 19)), (none, (.mov (.tmp 0), .some 20)), (none, (.nilc (.tmp 20), .some 21)), (none, (.fadr 1 (.tmp 21), .some 22)), (none, (.load none (.tmp 22), .some 23)), (none, (.slice 1 (.tmp 13) (.some (.tmp 19)) (.some (.tmp 23)) none, .some 24)), (none, (.app 1 1 (.tmp 9) (.tmp 24), .some 25)), (none, (.mov (.tmp 25), .some 4))] [(4, 8), (4, 14), (8, 14)]) .ret))
theorem b178 : Try.f178.body.bind (compC Try.prog) = some c178 := by kernel_rfl
theorem r178 : compR Try.prog Try.f178 = .some [.tmp 4] := by kernel_rfl
theorem n178 : (Try.f178.name == "runtime.NumGoroutine") = false := by kernel_rfl
def c190 : C := .seq
  (.reg [(none, (.mov (.const (.slice none 0 0)), .some 4))] []) (.seq
  (.reg [(none, (.mov (.tmp 0), .some 6)), (none, (.mov (.tmp 1), .some 7)), (none, (.call (.func 99) [.tmp 6, .tmp 7], .some 8)), (none, (.mov (.tmp 8), .some 5))] []) (.seq
  (.reg [(none, (.mov (.tmp 0), .some 9)), (none, (.mov (.tmp 5), .some 10)), (none, (.call (.func 178) [.tmp 9, .tmp 10], .some 11)), (none, (.mov (.tmp 11), .some 4))] []) .ret))
theorem b190 : Try.f190.body.bind (compC Try.prog) = some c190 := by kernel_rfl
theorem r190 : compR Try.prog Try.f190 = .some [.tmp 4] := by kernel_rfl
theorem n190 : (Try.f190.name == "runtime.NumGoroutine") = false := by kernel_rfl
def c191 : C := .seq
  (.reg [(none, (.mov (.const (.int .i64 0)), .some 2))] []) (.seq
  (.reg [(none, (.mov (.tmp 0), .some 3)), (none, (.mx .false (.tmp 3) (.const (.int .i64 2097152)), .some 4)), (none, (.mov (.tmp 4), .some 2))] []) .ret)
theorem b191 : Try.f191.body.bind (compC Try.prog) = some c191 := by kernel_rfl
theorem r191 : compR Try.prog Try.f191 = .some [.tmp 2] := by kernel_rfl
theorem n191 : (Try.f191.name == "runtime.NumGoroutine") = false := by kernel_rfl
end Go.Proofs.Ytkhnfleejgfhgaa
