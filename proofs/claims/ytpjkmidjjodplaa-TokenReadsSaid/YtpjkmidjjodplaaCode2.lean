/-
  The codes of the seat's functions over abstract values, each shown to be its function's own (by program: wip/tools/codes.py).
-/
import Derived.Test.YtpjkmidjjodplaaA2
import Derived.Test.YtpjkmidjjodplaaProg
import Derived.KernelRfl
namespace Go.Proofs.Ytpjkmidjjodplaa
def c29 : C := .seq
  (.reg [(none, (.mov (.const (.pointer none)), .some 2))] []) (.seq
  (.reg [(none, (.mov (.tmp 0), .some 3)), (none, (.mx .true (.tmp 3) (.const (.int .i64 0)), .some 4)), (none, (.build [.int .i64 0, .slice none 0 0, .int .i64 0] [(0, (1, .tmp 4))], .some 5)), (none, (.box (.tmp 5), .some 6)), (none, (.mov (.tmp 6), .some 2))] []) .ret)
theorem b29 : Try.f29.body.bind (compC Try.prog) = some c29 := by kernel_rfl
theorem r29 : compR Try.prog Try.f29 = .some [.tmp 2] := by kernel_rfl
theorem n29 : (Try.f29.name == "runtime.NumGoroutine") = false := by kernel_rfl
def c37 : C := .seq
  (.reg [(none, (.mov (.const (.bool .false)), .some 0))] []) (.seq
  (.reg [(none, (.bsl 1 [.const (.int .u8 7), .const (.int .u8 8)], .some 4)), (none, (.build [.slice none 0 0, .int .i64 0, .int .i64 0] [(0, (1, .tmp 4))], .some 5)), (none, (.build [.slice none 0 0, .int .i64 0, .int .i64 0] [(1, (1, .const (.int .i64 1))), (2, (1, .const (.int .i64 4)))], .some 6)), (none, (.bsl 3 [.tmp 5, .tmp 6], .some 7)), (none, (.call (.func 43) [.tmp 7], .some 8)), (none, (.mov (.tmp 8), .some 3)), (none, (.ext (.tmp 3) 0, .some 9)), (none, (.ext (.tmp 3) 1, .some 10)), (none, (.mov (.tmp 9), .some 1)), (none, (.mov (.tmp 10), .some 2))] []) (.seq
  (.reg [(none, (.mov (.tmp 2), .some 11)), (none, (.bin .eql (.tmp 11) (.const (.int .i64 0)), .some 12)), (none, (.mov (.tmp 12), .some 13)), (.some (13, .true), (.mov (.tmp 1), .some 14)), (.some (13, .true), (.bsl 1 [.const (.int .u8 2), .const (.int .u8 7), .const (.int .u8 8), .const (.int .u8 1), .const (.int .u8 0)], .some 15)), (.some (13, .true), (.call (.func 21) [.tmp 14, .tmp 15], .some 16)), (none, (.pick (.tmp 13) (.tmp 16) (.const (.bool .false)), .some 17)), (none, (.mov (.tmp 17), .some 0))] []) .ret))
theorem b37 : Try.f37.body.bind (compC Try.prog) = some c37 := by kernel_rfl
theorem r37 : compR Try.prog Try.f37 = .some [.tmp 0] := by kernel_rfl
theorem n37 : (Try.f37.name == "runtime.NumGoroutine") = false := by kernel_rfl
def c46 : C := .seq
  (.reg [(none, (.mov (.const (.bool .false)), .some 4))] []) (.seq (.seq
  (.reg [(none, (.mov (.tmp 0), .some 6)), (none, (.len .false (.tmp 6), .some 7)), (none, (.mov (.tmp 1), .some 8)), (none, (.len .false (.tmp 8), .some 9)), (none, (.bin .neq (.tmp 7) (.tmp 9), .some 10))] []) (.cond (.tmp 10) (.seq
  (.reg [(none, (.mov (.const (.bool .false)), .some 4))] []) .ret) .skip)) (.seq (.seq
  (.reg [(none, (.mov (.const (.int .i64 0)), .some 5))] []) (.block 0 (.loop (.seq (.seq
  (.reg [(none, (.mov (.tmp 5), .some 11)), (none, (.mov (.tmp 0), .some 12)), (none, (.len .false (.tmp 12), .some 13)), (none, (.bin .lss (.tmp 11) (.tmp 13), .some 14))] []) (.cond (.tmp 14) .skip (.exit 0))) (.seq (.block 1 (.seq
  (.reg [(none, (.mov (.tmp 0), .some 17)), (none, (.mov (.tmp 5), .some 18)), (none, (.iadr 3 (.tmp 17) (.tmp 18), .some 19)), (none, (.fadr 1 (.tmp 19), .some 20)), (none, (.load none (.tmp 20), .some 21)), (none, (.mov (.tmp 1), .some 22)), (none, (.mov (.tmp 5), .some 23)), (none, (.iadr 3 (.tmp 22) (.tmp 23), .some 24)), (none, (.fadr 1 (.tmp 24), .some 25)), (none, (.load none (.tmp 25), .some 26)), (none, (.bin .neq (.tmp 21) (.tmp 26), .some 27)), (none, (.mov (.tmp 27), .some 28)), (.some (28, .false), (.mov (.tmp 0), .some 29)), (.some (28, .false), (.mov (.tmp 5), .some 30)), (.some (28, .false), (.iadr 3 (.tmp 29) (.tmp 30), .some 31)), (.some (28, .false), (.fadr 2 (.tmp 31), .some 32)), (.some (28, .false), (.load none (.tmp 32), .some 33)), (.some (28, .false), (.mov (.tmp 1), .some 34)), (.some (28, .false), (.mov (.tmp 5), .some 35)), (.some (28, .false), (.iadr 3 (.tmp 34) (.tmp 35), .some 36)), (.some (28, .false), (.fadr 2 (.tmp 36), .some 37)), (.some (28, .false), (.load none (.tmp 37), .some 38)), (.some (28, .false), (.bin .neq (.tmp 33) (.tmp 38), .some 39)), (none, (.pick (.tmp 28) (.const (.bool .true)) (.tmp 39), .some 40)), (none, (.mov (.tmp 40), .some 41)), (.some (41, .false), (.mov (.tmp 0), .some 42)), (.some (41, .false), (.mov (.tmp 5), .some 43)), (.some (41, .false), (.iadr 3 (.tmp 42) (.tmp 43), .some 44)), (.some (41, .false), (.fadr 0 (.tmp 44), .some 45)), (.some (41, .false), (.load none (.tmp 45), .some 46)), (.some (41, .false), (.mov (.tmp 1), .some 47)), (.some (41, .false), (.mov (.tmp 5), .some 48)), (.some (41, .false), (.iadr 3 (.tmp 47) (.tmp 48), .some 49)), (.some (41, .false), (.fadr 0 (.tmp 49), .some 50)), (.some (41, .false), (.load none (.tmp 50), .some 51)), (.some (41, .false), (.call (.func 21) [.tmp 46, .tmp 51], .some 52)), (.some (41, .false), (.un .not (.tmp 52), .some 53)), (none, (.pick (.tmp 41) (.const (.bool .true)) (.tmp 53), .some 54))] [(4, 9), (16, 21), (29, 34)]) (.cond (.tmp 54) (.seq
  (.reg [(none, (.mov (.const (.bool .false)), .some 4))] []) .ret) .skip)))
  (.reg [(none, (.mov (.tmp 5), .some 15)), (none, (.bin .add (.tmp 15) (.const (.int .i64 1)), .some 16)), (none, (.mov (.tmp 16), .some 5))] [])))))) (.seq
  (.reg [(none, (.mov (.const (.bool .true)), .some 4))] []) .ret)))
theorem b46 : Try.f46.body.bind (compC Try.prog) = some c46 := by kernel_rfl
theorem r46 : compR Try.prog Try.f46 = .some [.tmp 4] := by kernel_rfl
theorem n46 : (Try.f46.name == "runtime.NumGoroutine") = false := by kernel_rfl
def c51 : C := .seq
  (.reg [(none, (.mov (.const (.slice none 0 0)), .some 2)), (none, (.new [.int .i64 0, .int .i64 0], .some 3))] []) (.seq
  (.reg [(none, (.mov (.tmp 0), .some 7)), (none, (.call (.func 53) [.tmp 7], .some 8)), (none, (.mov (.tmp 8), .some 4))] []) (.seq
  (.reg [(none, (.mov (.const (.slice none 0 0)), .some 5))] []) (.seq (.block 0 (.loop (.seq (.seq
  (.reg [(none, (.mov (.tmp 4), .some 9)), (none, (.call (.func 60) [.tmp 9], .some 10)), (none, (.mov (.tmp 10), .some 11)), (.some (11, .true), (.mov (.tmp 4), .some 12)), (.some (11, .true), (.call (.func 91) [.tmp 12], .some 13)), (.some (11, .true), (.bin .gtr (.tmp 13) (.const (.int .i64 0)), .some 14)), (none, (.pick (.tmp 11) (.tmp 14) (.const (.bool .false)), .some 15))] []) (.cond (.tmp 15) .skip (.exit 0))) (.block 1
  (.reg [(none, (.mov (.tmp 5), .some 16)), (none, (.mov (.tmp 4), .some 17)), (none, (.call (.func 54) [.tmp 17], .some 18)), (none, (.bsl 3 [.tmp 18], .some 19)), (none, (.app 3 40 (.tmp 16) (.tmp 19), .some 20)), (none, (.mov (.tmp 20), .some 5))] []))))) (.seq (.seq
  (.reg [(none, (.mov (.tmp 4), .some 21)), (none, (.call (.func 56) [.tmp 21], .some 22)), (none, (.new [.int .i64 0, .int .i64 0], .some 6)), (none, (.store 2 (.tmp 6) (.tmp 22), none))] []) (.seq
  (.reg [(none, (.load (.some 2) (.tmp 6), .some 23)), (none, (.call (.func 94) [.tmp 23], .some 24)), (none, (.un .not (.tmp 24), .some 25))] []) (.cond (.tmp 25) (.seq
  (.reg [(none, (.load (.some 2) (.tmp 6), .some 26)), (none, (.mov (.const (.slice none 0 0)), .some 2)), (none, (.store 2 (.tmp 3) (.tmp 26), none))] []) .ret) .skip))) (.seq
  (.reg [(none, (.mov (.tmp 5), .some 27)), (none, (.build [.int .i64 0, .int .i64 0] [], .some 28)), (none, (.mov (.tmp 27), .some 2)), (none, (.store 2 (.tmp 3) (.tmp 28), none))] []) .ret)))))
theorem b51 : Try.f51.body.bind (compC Try.prog) = some c51 := by kernel_rfl
theorem r51 : compR Try.prog Try.f51 = .some [.tmp 2, .cell 3 (.some 2)] := by kernel_rfl
theorem n51 : (Try.f51.name == "runtime.NumGoroutine") = false := by kernel_rfl
def c52 : C := .seq
  (.reg [(none, (.mov (.const (.slice none 0 0)), .some 2)), (none, (.new [.int .i64 0, .int .i64 0], .some 3))] []) (.seq
  (.reg [(none, (.mov (.tmp 0), .some 8)), (none, (.build [.slice none 0 0, .int .i64 0, .int .i64 0, .int .i64 0] [(0, (1, .tmp 8))], .some 9)), (none, (.new [.slice none 0 0, .int .i64 0, .int .i64 0, .int .i64 0], .some 4)), (none, (.store 4 (.tmp 4) (.tmp 9), none))] []) (.seq
  (.reg [(none, (.mov (.const (.slice none 0 0)), .some 5))] []) (.seq (.block 0 (.loop (.seq (.seq
  (.reg [(none, (.fadr 1 (.tmp 4), .some 10)), (none, (.load none (.tmp 10), .some 11)), (none, (.mov (.tmp 0), .some 12)), (none, (.len .false (.tmp 12), .some 13)), (none, (.bin .lss (.tmp 11) (.tmp 13), .some 14))] []) (.cond (.tmp 14) .skip (.exit 0))) (.block 1 (.seq
  (.reg [(none, (.load (.some 4) (.tmp 4), .some 16)), (none, (.call (.func 55) [.tmp 16], .some 17)), (none, (.mov (.tmp 17), .some 15)), (none, (.ext (.tmp 15) 0, .some 18)), (none, (.ext (.tmp 15) 1, .some 19)), (none, (.new [.slice none 0 0, .int .i64 0, .int .i64 0, .int .i64 0], .some 6)), (none, (.new [.slice none 0 0, .int .i64 0, .int .i64 0], .some 7)), (none, (.store 4 (.tmp 6) (.tmp 18), none)), (none, (.store 3 (.tmp 7) (.tmp 19), none))] []) (.seq
  (.reg [(none, (.load (.some 4) (.tmp 6), .some 20)), (none, (.store 4 (.tmp 4) (.tmp 20), none))] []) (.seq (.seq
  (.reg [(none, (.fadr 2 (.tmp 4), .some 21)), (none, (.fadr 0 (.tmp 21), .some 22)), (none, (.load none (.tmp 22), .some 23)), (none, (.bin .neq (.tmp 23) (.const (.int .i64 0)), .some 24))] []) (.cond (.tmp 24) (.seq
  (.reg [(none, (.fadr 2 (.tmp 4), .some 25)), (none, (.fadr 0 (.tmp 25), .some 26)), (none, (.load none (.tmp 26), .some 27)), (none, (.fadr 2 (.tmp 4), .some 28)), (none, (.fadr 1 (.tmp 28), .some 29)), (none, (.load none (.tmp 29), .some 30)), (none, (.call (.func 73) [.tmp 27, .tmp 30], .some 31)), (none, (.mov (.const (.slice none 0 0)), .some 2)), (none, (.store 2 (.tmp 3) (.tmp 31), none))] []) .ret) .skip))
  (.reg [(none, (.mov (.tmp 5), .some 32)), (none, (.load (.some 3) (.tmp 7), .some 33)), (none, (.bsl 3 [.tmp 33], .some 34)), (none, (.app 3 40 (.tmp 32) (.tmp 34), .some 35)), (none, (.mov (.tmp 35), .some 5))] [])))))))) (.seq
  (.reg [(none, (.mov (.tmp 5), .some 36)), (none, (.build [.int .i64 0, .int .i64 0] [], .some 37)), (none, (.mov (.tmp 36), .some 2)), (none, (.store 2 (.tmp 3) (.tmp 37), none))] []) .ret))))
theorem b52 : Try.f52.body.bind (compC Try.prog) = some c52 := by kernel_rfl
theorem r52 : compR Try.prog Try.f52 = .some [.tmp 2, .cell 3 (.some 2)] := by kernel_rfl
theorem n52 : (Try.f52.name == "runtime.NumGoroutine") = false := by kernel_rfl
def c53 : C := .seq
  (.reg [(none, (.mov (.const (.pointer none)), .some 2))] []) (.seq
  (.reg [(none, (.mov (.tmp 0), .some 3)), (none, (.mov (.tmp 0), .some 4)), (none, (.len .false (.tmp 4), .some 5)), (none, (.mov (.tmp 0), .some 6)), (none, (.len .false (.tmp 6), .some 7)), (none, (.slice 1 (.tmp 3) none (.some (.tmp 5)) (.some (.tmp 7)), .some 8)), (none, (.build [.slice none 0 0, .int .i64 0, .int .i64 0, .int .i64 0] [(0, (1, .tmp 8))], .some 9)), (none, (.box (.tmp 9), .some 10)), (none, (.mov (.tmp 10), .some 2))] []) .ret)
theorem b53 : Try.f53.body.bind (compC Try.prog) = some c53 := by kernel_rfl
theorem r53 : compR Try.prog Try.f53 = .some [.tmp 2] := by kernel_rfl
theorem n53 : (Try.f53.name == "runtime.NumGoroutine") = false := by kernel_rfl
def c60 : C := .seq
  (.reg [(none, (.mov (.const (.bool .false)), .some 2))] []) (.seq
  (.reg [(none, (.mov (.tmp 0), .some 3)), (none, (.eqp .true (.tmp 3) (.const (.pointer none)), .some 4)), (none, (.mov (.tmp 4), .some 5)), (.some (5, .true), (.mov (.tmp 0), .some 6)), (.some (5, .true), (.nilc (.tmp 6), .some 7)), (.some (5, .true), (.fadr 2 (.tmp 7), .some 8)), (.some (5, .true), (.load (.some 2) (.tmp 8), .some 9)), (.some (5, .true), (.call (.func 94) [.tmp 9], .some 10)), (none, (.pick (.tmp 5) (.tmp 10) (.const (.bool .false)), .some 11)), (none, (.mov (.tmp 11), .some 2))] []) .ret)
theorem b60 : Try.f60.body.bind (compC Try.prog) = some c60 := by kernel_rfl
theorem r60 : compR Try.prog Try.f60 = .some [.tmp 2] := by kernel_rfl
theorem n60 : (Try.f60.name == "runtime.NumGoroutine") = false := by kernel_rfl
def c87 : C := .seq
  (.reg [(none, (.mov (.const (.int .i64 0)), .some 2))] []) (.seq
  (.reg [(none, (.mov (.const (.int .i64 0)), .some 3))] []) (.seq (.seq
  (.reg [(none, (.mov (.tmp 0), .some 6)), (none, (.len .false (.tmp 6), .some 7)), (none, (.mov (.const (.int .i64 0)), .some 8))] []) (.block 0 (.loop (.seq
  (.reg [(none, (.bin .lss (.tmp 8) (.tmp 7), .some 9))] []) (.seq (.cond (.tmp 9) .skip (.exit 0)) (.seq (.block 1 (.seq
  (.reg [(none, (.iadr 3 (.tmp 6) (.tmp 8), .some 10)), (none, (.load (.some 3) (.tmp 10), .some 11)), (none, (.new [.slice none 0 0, .int .i64 0, .int .i64 0], .some 5)), (none, (.store 3 (.tmp 5) (.tmp 11), none))] [])
  (.reg [(none, (.mov (.tmp 3), .some 12)), (none, (.fadr 0 (.tmp 5), .some 13)), (none, (.load none (.tmp 13), .some 14)), (none, (.len .false (.tmp 14), .some 15)), (none, (.call (.func 113) [.const (.int .u64 18446744073709551615)], .some 16)), (none, (.bin .mul (.const (.int .i64 2)) (.tmp 16), .some 17)), (none, (.bin .add (.tmp 15) (.tmp 17), .some 18)), (none, (.bin .add (.tmp 12) (.tmp 18), .some 19)), (none, (.mov (.tmp 19), .some 3))] [(2, 4)])))
  (.reg [(none, (.bin .add (.tmp 8) (.const (.int .i64 1)), .some 20)), (none, (.mov (.tmp 20), .some 8))] []))))))) (.seq
  (.reg [(none, (.mov (.tmp 3), .some 21)), (none, (.mov (.tmp 21), .some 2))] []) .ret)))
theorem b87 : Try.f87.body.bind (compC Try.prog) = some c87 := by kernel_rfl
theorem r87 : compR Try.prog Try.f87 = .some [.tmp 2] := by kernel_rfl
theorem n87 : (Try.f87.name == "runtime.NumGoroutine") = false := by kernel_rfl
def c91 : C := .seq
  (.reg [(none, (.mov (.const (.int .i64 0)), .some 2))] []) (.seq (.seq
  (.reg [(none, (.mov (.tmp 0), .some 3)), (none, (.eqp .false (.tmp 3) (.const (.pointer none)), .some 4))] []) (.cond (.tmp 4) (.seq
  (.reg [(none, (.mov (.const (.int .i64 0)), .some 2))] []) .ret) .skip)) (.seq
  (.reg [(none, (.mov (.tmp 0), .some 5)), (none, (.nilc (.tmp 5), .some 6)), (none, (.fadr 0 (.tmp 6), .some 7)), (none, (.load none (.tmp 7), .some 8)), (none, (.len .false (.tmp 8), .some 9)), (none, (.mov (.tmp 0), .some 10)), (none, (.nilc (.tmp 10), .some 11)), (none, (.fadr 1 (.tmp 11), .some 12)), (none, (.load none (.tmp 12), .some 13)), (none, (.bin .sub (.tmp 9) (.tmp 13), .some 14)), (none, (.mov (.tmp 14), .some 2))] [(3, 8)]) .ret))
theorem b91 : Try.f91.body.bind (compC Try.prog) = some c91 := by kernel_rfl
theorem r91 : compR Try.prog Try.f91 = .some [.tmp 2] := by kernel_rfl
theorem n91 : (Try.f91.name == "runtime.NumGoroutine") = false := by kernel_rfl
def c94 : C := .seq
  (.reg [(none, (.box (.tmp 0), .some 1)), (none, (.mov (.const (.bool .false)), .some 2))] []) (.seq
  (.reg [(none, (.fadr 0 (.tmp 1), .some 3)), (none, (.load none (.tmp 3), .some 4)), (none, (.bin .eql (.tmp 4) (.const (.int .i64 0)), .some 5)), (none, (.mov (.tmp 5), .some 2))] []) .ret)
theorem b94 : Try.f94.body.bind (compC Try.prog) = some c94 := by kernel_rfl
theorem r94 : compR Try.prog Try.f94 = .some [.tmp 2] := by kernel_rfl
theorem n94 : (Try.f94.name == "runtime.NumGoroutine") = false := by kernel_rfl
def c114 : C := .seq
  (.reg [(none, (.mov (.const (.slice none 0 0)), .some 2))] []) (.seq
  (.reg [(none, (.mov (.const (.slice none 0 0)), .some 3))] []) (.seq (.block 0 (.loop (.seq (.seq
  (.reg [(none, (.mov (.tmp 0), .some 4)), (none, (.bin .geq (.tmp 4) (.const (.int .u64 128)), .some 5))] []) (.cond (.tmp 5) .skip (.exit 0))) (.block 1 (.seq
  (.reg [(none, (.mov (.tmp 3), .some 6)), (none, (.mov (.tmp 0), .some 7)), (none, (.cvt .u8 (.tmp 7), .some 8)), (none, (.bin .or (.tmp 8) (.const (.int .u8 128)), .some 9)), (none, (.bsl 1 [.tmp 9], .some 10)), (none, (.app 1 1 (.tmp 6) (.tmp 10), .some 11)), (none, (.mov (.tmp 11), .some 3))] [])
  (.reg [(none, (.mov (.tmp 0), .some 12)), (none, (.bin .shr (.tmp 12) (.const (.int .u64 7)), .some 13)), (none, (.mov (.tmp 13), .some 0))] [])))))) (.seq
  (.reg [(none, (.mov (.tmp 3), .some 14)), (none, (.mov (.tmp 0), .some 15)), (none, (.cvt .u8 (.tmp 15), .some 16)), (none, (.bsl 1 [.tmp 16], .some 17)), (none, (.app 1 1 (.tmp 14) (.tmp 17), .some 18)), (none, (.mov (.tmp 18), .some 2))] []) .ret)))
theorem b114 : Try.f114.body.bind (compC Try.prog) = some c114 := by kernel_rfl
theorem r114 : compR Try.prog Try.f114 = .some [.tmp 2] := by kernel_rfl
theorem n114 : (Try.f114.name == "runtime.NumGoroutine") = false := by kernel_rfl
def c116 : C := .seq
  (.reg [(none, (.mov (.const (.int .u64 0)), .some 2)), (none, (.mov (.const (.int .i64 0)), .some 3)), (none, (.new [.int .i64 0, .int .i64 0], .some 4))] []) (.seq (.seq
  (.reg [(none, (.mov (.const (.int .i64 0)), .some 5))] []) (.block 0 (.loop (.seq (.seq
  (.reg [(none, (.mov (.tmp 5), .some 8)), (none, (.mov (.tmp 0), .some 9)), (none, (.len .false (.tmp 9), .some 10)), (none, (.bin .lss (.tmp 8) (.tmp 10), .some 11))] []) (.cond (.tmp 11) .skip (.exit 0))) (.seq (.block 1 (.seq (.seq
  (.reg [(none, (.mov (.tmp 5), .some 14)), (none, (.bin .eql (.tmp 14) (.const (.int .i64 9)), .some 15)), (none, (.mov (.tmp 15), .some 16)), (.some (16, .true), (.mov (.tmp 0), .some 17)), (.some (16, .true), (.mov (.tmp 5), .some 18)), (.some (16, .true), (.iadr 1 (.tmp 17) (.tmp 18), .some 19)), (.some (16, .true), (.load none (.tmp 19), .some 20)), (.some (16, .true), (.bin .gtr (.tmp 20) (.const (.int .u8 1)), .some 21)), (none, (.pick (.tmp 16) (.tmp 21) (.const (.bool .false)), .some 22))] []) (.cond (.tmp 22) (.seq
  (.reg [(none, (.mov (.tmp 5), .some 23)), (none, (.call (.func 73) [.const (.int .i64 5), .tmp 23], .some 24)), (none, (.mov (.const (.int .u64 0)), .some 2)), (none, (.mov (.const (.int .i64 0)), .some 3)), (none, (.store 2 (.tmp 4) (.tmp 24), none))] []) .ret) .skip)) (.seq (.seq
  (.reg [(none, (.mov (.tmp 5), .some 25)), (none, (.bin .gtr (.tmp 25) (.const (.int .i64 0)), .some 26)), (none, (.mov (.tmp 26), .some 27)), (.some (27, .true), (.mov (.tmp 0), .some 28)), (.some (27, .true), (.mov (.tmp 5), .some 29)), (.some (27, .true), (.iadr 1 (.tmp 28) (.tmp 29), .some 30)), (.some (27, .true), (.load none (.tmp 30), .some 31)), (.some (27, .true), (.bin .eql (.tmp 31) (.const (.int .u8 0)), .some 32)), (none, (.pick (.tmp 27) (.tmp 32) (.const (.bool .false)), .some 33))] []) (.cond (.tmp 33) (.seq
  (.reg [(none, (.mov (.tmp 5), .some 34)), (none, (.call (.func 73) [.const (.int .i64 4), .tmp 34], .some 35)), (none, (.mov (.const (.int .u64 0)), .some 2)), (none, (.mov (.const (.int .i64 0)), .some 3)), (none, (.store 2 (.tmp 4) (.tmp 35), none))] []) .ret) .skip)) (.seq
  (.reg [(none, (.mov (.tmp 0), .some 36)), (none, (.mov (.tmp 5), .some 37)), (none, (.iadr 1 (.tmp 36) (.tmp 37), .some 38)), (none, (.load none (.tmp 38), .some 39)), (none, (.bin .lss (.tmp 39) (.const (.int .u8 128)), .some 40))] []) (.cond (.tmp 40) (.seq
  (.reg [(none, (.mov (.const (.int .u64 0)), .some 6))] []) (.seq (.seq
  (.reg [(none, (.mov (.tmp 5), .some 41)), (none, (.mov (.tmp 41), .some 7))] []) (.block 2 (.loop (.seq (.seq
  (.reg [(none, (.mov (.tmp 7), .some 42)), (none, (.bin .geq (.tmp 42) (.const (.int .i64 0)), .some 43))] []) (.cond (.tmp 43) .skip (.exit 2))) (.seq (.block 3
  (.reg [(none, (.mov (.tmp 6), .some 46)), (none, (.bin .mul (.const (.int .u64 128)) (.tmp 46), .some 47)), (none, (.mov (.tmp 0), .some 48)), (none, (.mov (.tmp 7), .some 49)), (none, (.iadr 1 (.tmp 48) (.tmp 49), .some 50)), (none, (.load none (.tmp 50), .some 51)), (none, (.bin .rem (.tmp 51) (.const (.int .u8 128)), .some 52)), (none, (.cvt .u64 (.tmp 52), .some 53)), (none, (.bin .add (.tmp 47) (.tmp 53), .some 54)), (none, (.mov (.tmp 54), .some 6))] []))
  (.reg [(none, (.mov (.tmp 7), .some 44)), (none, (.bin .sub (.tmp 44) (.const (.int .i64 1)), .some 45)), (none, (.mov (.tmp 45), .some 7))] [])))))) (.seq
  (.reg [(none, (.mov (.tmp 6), .some 55)), (none, (.mov (.tmp 5), .some 56)), (none, (.bin .add (.tmp 56) (.const (.int .i64 1)), .some 57)), (none, (.build [.int .i64 0, .int .i64 0] [], .some 58)), (none, (.mov (.tmp 55), .some 2)), (none, (.mov (.tmp 57), .some 3)), (none, (.store 2 (.tmp 4) (.tmp 58), none))] []) .ret))) .skip)))))
  (.reg [(none, (.mov (.tmp 5), .some 12)), (none, (.bin .add (.tmp 12) (.const (.int .i64 1)), .some 13)), (none, (.mov (.tmp 13), .some 5))] [])))))) (.seq
  (.reg [(none, (.mov (.tmp 0), .some 59)), (none, (.len .false (.tmp 59), .some 60)), (none, (.call (.func 73) [.const (.int .i64 1), .tmp 60], .some 61)), (none, (.mov (.const (.int .u64 0)), .some 2)), (none, (.mov (.const (.int .i64 0)), .some 3)), (none, (.store 2 (.tmp 4) (.tmp 61), none))] []) .ret))
theorem b116 : Try.f116.body.bind (compC Try.prog) = some c116 := by kernel_rfl
theorem r116 : compR Try.prog Try.f116 = .some [.tmp 2, .tmp 3, .cell 4 (.some 2)] := by kernel_rfl
theorem n116 : (Try.f116.name == "runtime.NumGoroutine") = false := by kernel_rfl
end Go.Proofs.Ytpjkmidjjodplaa
