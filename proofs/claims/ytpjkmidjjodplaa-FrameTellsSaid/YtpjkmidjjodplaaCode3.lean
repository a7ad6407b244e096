/-
  The codes of the seat's functions over abstract values, each shown to be its function's own (by program: wip/tools/codes.py).
-/
import Derived.Test.YtpjkmidjjodplaaA2
import Derived.Test.YtpjkmidjjodplaaProg
import Derived.KernelRfl
namespace Go.Proofs.Ytpjkmidjjodplaa
def c5 : C := .seq
  (.reg [(none, (.mov (.const (.bool .false)), .some 6))] []) (.seq (.seq
  (.reg [(none, (.mov (.tmp 0), .some 14)), (none, (.len .false (.tmp 14), .some 15)), (none, (.bin .gtr (.tmp 15) (.const (.int .i64 500)), .some 16)), (none, (.mov (.tmp 16), .some 17)), (.some (17, .false), (.mov (.tmp 1), .some 18)), (.some (17, .false), (.len .false (.tmp 18), .some 19)), (.some (17, .false), (.bin .gtr (.tmp 19) (.const (.int .i64 500)), .some 20)), (none, (.pick (.tmp 17) (.const (.bool .true)) (.tmp 20), .some 21))] []) (.cond (.tmp 21) (.seq
  (.reg [(none, (.call (.func 27) [], .some 22)), (none, (.mov (.tmp 22), .some 6))] []) .ret) .skip)) (.seq
  (.reg [(none, (.mov (.tmp 0), .some 24)), (none, (.call (.func 28) [.tmp 24], .some 25)), (none, (.mov (.tmp 25), .some 23)), (none, (.ext (.tmp 23) 0, .some 26)), (none, (.ext (.tmp 23) 1, .some 27)), (none, (.mov (.tmp 26), .some 7)), (none, (.mov (.tmp 27), .some 8))] []) (.seq
  (.reg [(none, (.call (.func 29) [.const (.int .i64 2000)], .some 28)), (none, (.mov (.tmp 28), .some 9))] []) (.seq
  (.reg [(none, (.mov (.tmp 9), .some 29)), (none, (.mov (.tmp 1), .some 30)), (none, (.call (.func 30) [.tmp 29, .tmp 30], .some 31))] []) (.seq
  (.reg [(none, (.mov (.tmp 9), .some 32)), (none, (.mov (.tmp 0), .some 33)), (none, (.call (.func 31) [.tmp 32, .tmp 33], .some 34))] []) (.seq
  (.reg [(none, (.mov (.tmp 9), .some 36)), (none, (.call (.func 32) [.tmp 36], .some 37)), (none, (.mov (.tmp 37), .some 35)), (none, (.ext (.tmp 35) 0, .some 38)), (none, (.ext (.tmp 35) 1, .some 39)), (none, (.mov (.tmp 38), .some 10)), (none, (.mov (.tmp 39), .some 11))] []) (.seq
  (.reg [(none, (.mov (.tmp 2), .some 40)), (none, (.mx .true (.tmp 40) (.const (.int .i64 0)), .some 41)), (none, (.mx .false (.tmp 41) (.const (.int .i64 1099511627776)), .some 42)), (none, (.mov (.tmp 42), .some 12))] []) (.seq
  (.reg [(none, (.mov (.tmp 12), .some 43)), (none, (.cvt .u64 (.tmp 43), .some 44)), (none, (.call (.func 33) [.tmp 44], .some 45)), (none, (.len .false (.tmp 45), .some 46)), (none, (.mov (.tmp 12), .some 47)), (none, (.bin .add (.tmp 46) (.tmp 47), .some 48)), (none, (.bin .add (.tmp 48) (.const (.int .i64 4)), .some 49)), (none, (.mov (.tmp 49), .some 13))] []) (.seq
  (.reg [(none, (.mov (.tmp 8), .some 50)), (none, (.bin .eql (.tmp 50) (.const (.int .i64 0)), .some 51)), (none, (.mov (.tmp 51), .some 52)), (.some (52, .true), (.mov (.tmp 11), .some 53)), (.some (52, .true), (.bin .eql (.tmp 53) (.const (.int .i64 0)), .some 54)), (none, (.pick (.tmp 52) (.tmp 54) (.const (.bool .false)), .some 55)), (none, (.mov (.tmp 55), .some 56)), (.some (56, .true), (.mov (.tmp 7), .some 57)), (.some (56, .true), (.mov (.tmp 0), .some 58)), (.some (56, .true), (.call (.func 34) [.tmp 58], .some 59)), (.some (56, .true), (.call (.func 21) [.tmp 57, .tmp 59], .some 60)), (none, (.pick (.tmp 56) (.tmp 60) (.const (.bool .false)), .some 61)), (none, (.mov (.tmp 61), .some 62)), (.some (62, .true), (.mov (.tmp 10), .some 63)), (.some (62, .true), (.bsl 1 [], .some 64)), (.some (62, .true), (.mov (.tmp 1), .some 65)), (.some (62, .true), (.app 1 1 (.tmp 64) (.tmp 65), .some 66)), (.some (62, .true), (.mov (.tmp 7), .some 67)), (.some (62, .true), (.app 1 1 (.tmp 66) (.tmp 67), .some 68)), (.some (62, .true), (.call (.func 21) [.tmp 63, .tmp 68], .some 69)), (none, (.pick (.tmp 62) (.tmp 69) (.const (.bool .false)), .some 70)), (none, (.mov (.tmp 70), .some 71)), (.some (71, .true), (.mov (.tmp 0), .some 72)), (.some (71, .true), (.len .false (.tmp 72), .some 73)), (.some (71, .true), (.call (.func 35) [.tmp 73], .some 74)), (.some (71, .true), (.mov (.tmp 7), .some 75)), (.some (71, .true), (.len .false (.tmp 75), .some 76)), (.some (71, .true), (.bin .eql (.tmp 74) (.tmp 76), .some 77)), (none, (.pick (.tmp 71) (.tmp 77) (.const (.bool .false)), .some 78)), (none, (.mov (.tmp 78), .some 79)), (.some (79, .true), (.mov (.tmp 12), .some 80)), (.some (79, .true), (.call (.func 35) [.tmp 80], .some 81)), (.some (79, .true), (.mov (.tmp 13), .some 82)), (.some (79, .true), (.bin .eql (.tmp 81) (.tmp 82), .some 83)), (none, (.pick (.tmp 79) (.tmp 83) (.const (.bool .false)), .some 84)), (none, (.mov (.tmp 84), .some 85)), (.some (85, .true), (.mov (.tmp 12), .some 86)), (.some (85, .true), (.call (.func 36) [.tmp 86], .some 87)), (.some (85, .true), (.mov (.tmp 13), .some 88)), (.some (85, .true), (.bin .eql (.tmp 87) (.tmp 88), .some 89)), (none, (.pick (.tmp 85) (.tmp 89) (.const (.bool .false)), .some 90)), (none, (.mov (.tmp 90), .some 91)), (.some (91, .true), (.call (.func 27) [], .some 92)), (none, (.pick (.tmp 91) (.tmp 92) (.const (.bool .false)), .some 93)), (none, (.mov (.tmp 93), .some 6))] []) .ret)))))))))
theorem b5 : Try.f5.body.bind (compC Try.prog) = some c5 := by kernel_rfl
theorem r5 : compR Try.prog Try.f5 = .some [.tmp 6] := by kernel_rfl
theorem n5 : (Try.f5.name == "runtime.NumGoroutine") = false := by kernel_rfl
def c13 : C := .seq
  (.reg [(none, (.box (.tmp 2), .some 5)), (none, (.mov (.const (.bool .false)), .some 6))] []) (.seq (.seq
  (.reg [(none, (.mov (.tmp 0), .some 17)), (none, (.len .false (.tmp 17), .some 18)), (none, (.bin .gtr (.tmp 18) (.const (.int .i64 500)), .some 19)), (none, (.mov (.tmp 19), .some 20)), (.some (20, .false), (.mov (.tmp 1), .some 21)), (.some (20, .false), (.len .false (.tmp 21), .some 22)), (.some (20, .false), (.bin .gtr (.tmp 22) (.const (.int .i64 500)), .some 23)), (none, (.pick (.tmp 20) (.const (.bool .true)) (.tmp 23), .some 24))] []) (.cond (.tmp 24) (.seq
  (.reg [(none, (.call (.func 27) [], .some 25)), (none, (.mov (.tmp 25), .some 6))] []) .ret) .skip)) (.seq
  (.reg [(none, (.mov (.tmp 0), .some 27)), (none, (.call (.func 28) [.tmp 27], .some 28)), (none, (.mov (.tmp 28), .some 26)), (none, (.ext (.tmp 26) 0, .some 29)), (none, (.ext (.tmp 26) 1, .some 30)), (none, (.mov (.tmp 29), .some 7)), (none, (.mov (.tmp 30), .some 8))] []) (.seq
  (.reg [(none, (.mov (.tmp 7), .some 31)), (none, (.len .false (.tmp 31), .some 32)), (none, (.mov (.tmp 0), .some 33)), (none, (.len .false (.tmp 33), .some 34)), (none, (.bin .sub (.tmp 32) (.tmp 34), .some 35)), (none, (.bin .sub (.tmp 35) (.const (.int .i64 4)), .some 36)), (none, (.mov (.tmp 36), .some 9))] []) (.seq (.seq
  (.reg [(none, (.mov (.tmp 9), .some 37)), (none, (.bin .lss (.tmp 37) (.const (.int .i64 1)), .some 38))] []) (.cond (.tmp 38) (.seq
  (.reg [(none, (.mov (.const (.bool .false)), .some 6))] []) .ret) .skip)) (.seq
  (.reg [(none, (.aadr 2 1 (.tmp 5) (.const (.int .i64 0)), .some 39)), (none, (.load none (.tmp 39), .some 40)), (none, (.cvt .i64 (.tmp 40), .some 41)), (none, (.mov (.tmp 0), .some 42)), (none, (.len .false (.tmp 42), .some 43)), (none, (.bin .add (.tmp 43) (.const (.int .i64 4)), .some 44)), (none, (.bin .mul (.const (.int .i64 8)) (.tmp 44), .some 45)), (none, (.bin .rem (.tmp 41) (.tmp 45), .some 46)), (none, (.mov (.tmp 46), .some 10))] []) (.seq
  (.reg [(none, (.mov (.tmp 7), .some 47)), (none, (.mov (.tmp 9), .some 48)), (none, (.slice 1 (.tmp 47) (.some (.tmp 48)) none none, .some 49)), (none, (.mov (.tmp 10), .some 50)), (none, (.aadr 2 1 (.tmp 5) (.const (.int .i64 1)), .some 51)), (none, (.load none (.tmp 51), .some 52)), (none, (.call (.func 62) [.tmp 49, .tmp 50, .tmp 52], .some 53)), (none, (.mov (.tmp 53), .some 11))] []) (.seq
  (.reg [(none, (.mov (.tmp 11), .some 54)), (none, (.mov (.tmp 7), .some 55)), (none, (.mov (.tmp 9), .some 56)), (none, (.slice 1 (.tmp 55) (.some (.tmp 56)) none none, .some 57)), (none, (.call (.func 21) [.tmp 54, .tmp 57], .some 58)), (none, (.un .not (.tmp 58), .some 59)), (none, (.mov (.tmp 59), .some 12))] []) (.seq
  (.reg [(none, (.mov (.const (.slice none 0 0)), .some 13))] []) (.seq
  (.reg [(none, (.mov (.tmp 13), .some 60)), (none, (.mov (.tmp 7), .some 61)), (none, (.mov (.tmp 9), .some 62)), (none, (.slice 1 (.tmp 61) none (.some (.tmp 62)) none, .some 63)), (none, (.app 1 1 (.tmp 60) (.tmp 63), .some 64)), (none, (.mov (.tmp 11), .some 65)), (none, (.app 1 1 (.tmp 64) (.tmp 65), .some 66)), (none, (.mov (.tmp 1), .some 67)), (none, (.app 1 1 (.tmp 66) (.tmp 67), .some 68)), (none, (.mov (.tmp 68), .some 13))] []) (.seq
  (.reg [(none, (.mov (.tmp 13), .some 70)), (none, (.call (.func 61) [.tmp 70, .const (.int .i64 500)], .some 71)), (none, (.mov (.tmp 71), .some 69)), (none, (.ext (.tmp 69) 0, .some 72)), (none, (.ext (.tmp 69) 1, .some 73)), (none, (.ext (.tmp 69) 2, .some 74)), (none, (.new [.int .i64 0, .int .i64 0], .some 16)), (none, (.mov (.tmp 72), .some 14)), (none, (.mov (.tmp 73), .some 15)), (none, (.store 2 (.tmp 16) (.tmp 74), none))] []) (.seq (.seq
  (.reg [(none, (.mov (.tmp 12), .some 75))] []) (.cond (.tmp 75) (.seq
  (.reg [(none, (.mov (.tmp 14), .some 76)), (none, (.len .false (.tmp 76), .some 77)), (none, (.bin .eql (.tmp 77) (.const (.int .i64 0)), .some 78)), (none, (.mov (.tmp 78), .some 79)), (.some (79, .true), (.mov (.tmp 15), .some 80)), (.some (79, .true), (.bin .eql (.tmp 80) (.const (.int .i64 0)), .some 81)), (none, (.pick (.tmp 79) (.tmp 81) (.const (.bool .false)), .some 82)), (none, (.mov (.tmp 82), .some 83)), (.some (83, .true), (.load (.some 2) (.tmp 16), .some 84)), (.some (83, .true), (.mov (.tmp 9), .some 85)), (.some (83, .true), (.mov (.tmp 0), .some 86)), (.some (83, .true), (.len .false (.tmp 86), .some 87)), (.some (83, .true), (.bin .add (.tmp 85) (.tmp 87), .some 88)), (.some (83, .true), (.build [.int .i64 0, .int .i64 0] [(0, (1, .const (.int .i64 6))), (1, (1, .tmp 88))], .some 89)), (.some (83, .true), (.eqa .false 2 (.tmp 84) (.tmp 89), .some 90)), (none, (.pick (.tmp 83) (.tmp 90) (.const (.bool .false)), .some 91)), (none, (.mov (.tmp 91), .some 92)), (.some (92, .true), (.call (.func 27) [], .some 93)), (none, (.pick (.tmp 92) (.tmp 93) (.const (.bool .false)), .some 94)), (none, (.mov (.tmp 94), .some 6))] []) .ret) .skip)) (.seq
  (.reg [(none, (.mov (.tmp 15), .some 95)), (none, (.mov (.tmp 7), .some 96)), (none, (.len .false (.tmp 96), .some 97)), (none, (.bin .eql (.tmp 95) (.tmp 97), .some 98)), (none, (.mov (.tmp 98), .some 99)), (.some (99, .true), (.fadr 0 (.tmp 16), .some 100)), (.some (99, .true), (.load none (.tmp 100), .some 101)), (.some (99, .true), (.bin .eql (.tmp 101) (.const (.int .i64 0)), .some 102)), (none, (.pick (.tmp 99) (.tmp 102) (.const (.bool .false)), .some 103)), (none, (.mov (.tmp 103), .some 104)), (.some (104, .true), (.call (.func 27) [], .some 105)), (none, (.pick (.tmp 104) (.tmp 105) (.const (.bool .false)), .some 106)), (none, (.mov (.tmp 106), .some 6))] []) .ret))))))))))))
theorem b13 : Try.f13.body.bind (compC Try.prog) = some c13 := by kernel_rfl
theorem r13 : compR Try.prog Try.f13 = .some [.tmp 6] := by kernel_rfl
theorem n13 : (Try.f13.name == "runtime.NumGoroutine") = false := by kernel_rfl
def c21 : C := .seq
  (.reg [(none, (.mov (.const (.bool .false)), .some 4))] []) (.seq
  (.reg [(none, (.mov (.tmp 0), .some 5)), (none, (.b2s (.tmp 5), .some 6)), (none, (.mov (.tmp 1), .some 7)), (none, (.b2s (.tmp 7), .some 8)), (none, (.bin .eql (.tmp 6) (.tmp 8), .some 9)), (none, (.mov (.tmp 9), .some 4))] []) .ret)
theorem b21 : Try.f21.body.bind (compC Try.prog) = some c21 := by kernel_rfl
theorem r21 : compR Try.prog Try.f21 = .some [.tmp 4] := by kernel_rfl
theorem n21 : (Try.f21.name == "runtime.NumGoroutine") = false := by kernel_rfl
def c31 : C := .seq (.seq
  (.reg [(none, (.mov (.tmp 1), .some 4)), (none, (.len .false (.tmp 4), .some 5)), (none, (.bin .gtr (.tmp 5) (.const (.int .i64 2097152)), .some 6))] []) (.cond (.tmp 6) (.seq
  (.reg [(none, (.mov (.tmp 0), .some 7)), (none, (.call (.func 78) [.tmp 7, .const (.int .i64 2)], .some 8))] []) .ret) .skip)) (.seq
  (.reg [(none, (.mov (.tmp 0), .some 9)), (none, (.mov (.tmp 1), .some 10)), (none, (.call (.func 79) [.tmp 9, .tmp 10], .some 11))] [])
  (.reg [(none, (.mov (.tmp 0), .some 12)), (none, (.mov (.tmp 1), .some 13)), (none, (.call (.func 81) [.tmp 13], .some 14)), (none, (.cvt .u64 (.tmp 14), .some 15)), (none, (.call (.func 80) [.tmp 12, .tmp 15, .const (.int .i64 4)], .some 16))] []))
theorem b31 : Try.f31.body.bind (compC Try.prog) = some c31 := by kernel_rfl
theorem r31 : compR Try.prog Try.f31 = .some [] := by kernel_rfl
theorem n31 : (Try.f31.name == "runtime.NumGoroutine") = false := by kernel_rfl
def c33 : C := .seq
  (.reg [(none, (.mov (.const (.slice none 0 0)), .some 2))] []) (.seq (.seq
  (.reg [(none, (.mov (.tmp 0), .some 3)), (none, (.bin .lss (.tmp 3) (.const (.int .u64 128)), .some 4))] []) (.cond (.tmp 4) (.seq
  (.reg [(none, (.mov (.tmp 0), .some 5)), (none, (.cvt .u8 (.tmp 5), .some 6)), (none, (.bsl 1 [.tmp 6], .some 7)), (none, (.mov (.tmp 7), .some 2))] []) .ret) .skip)) (.seq
  (.reg [(none, (.mov (.tmp 0), .some 8)), (none, (.bin .rem (.tmp 8) (.const (.int .u64 128)), .some 9)), (none, (.bin .add (.const (.int .u64 128)) (.tmp 9), .some 10)), (none, (.cvt .u8 (.tmp 10), .some 11)), (none, (.bsl 1 [.tmp 11], .some 12)), (none, (.mov (.tmp 0), .some 13)), (none, (.bin .quo (.tmp 13) (.const (.int .u64 128)), .some 14)), (none, (.call (.func 33) [.tmp 14], .some 15)), (none, (.app 1 1 (.tmp 12) (.tmp 15), .some 16)), (none, (.mov (.tmp 16), .some 2))] []) .ret))
theorem b33 : Try.f33.body.bind (compC Try.prog) = some c33 := by kernel_rfl
theorem r33 : compR Try.prog Try.f33 = .some [.tmp 2] := by kernel_rfl
theorem n33 : (Try.f33.name == "runtime.NumGoroutine") = false := by kernel_rfl
def c34 : C := .seq
  (.reg [(none, (.mov (.const (.slice none 0 0)), .some 2))] []) (.seq
  (.reg [(none, (.mov (.tmp 0), .some 3)), (none, (.call (.func 82) [.tmp 3], .some 4)), (none, (.mov (.tmp 0), .some 5)), (none, (.call (.func 84) [.tmp 5], .some 6)), (none, (.cvt .u64 (.tmp 6), .some 7)), (none, (.call (.func 83) [.tmp 7, .const (.int .i64 4)], .some 8)), (none, (.app 1 1 (.tmp 4) (.tmp 8), .some 9)), (none, (.mov (.tmp 9), .some 2))] []) .ret)
theorem b34 : Try.f34.body.bind (compC Try.prog) = some c34 := by kernel_rfl
theorem r34 : compR Try.prog Try.f34 = .some [.tmp 2] := by kernel_rfl
theorem n34 : (Try.f34.name == "runtime.NumGoroutine") = false := by kernel_rfl
def c60 : C := .seq
  (.reg [(none, (.mov (.const (.bool .false)), .some 2))] []) (.seq
  (.reg [(none, (.mov (.tmp 0), .some 3)), (none, (.eqp .true (.tmp 3) (.const (.pointer none)), .some 4)), (none, (.mov (.tmp 4), .some 5)), (.some (5, .true), (.mov (.tmp 0), .some 6)), (.some (5, .true), (.nilc (.tmp 6), .some 7)), (.some (5, .true), (.fadr 2 (.tmp 7), .some 8)), (.some (5, .true), (.load (.some 2) (.tmp 8), .some 9)), (.some (5, .true), (.call (.func 94) [.tmp 9], .some 10)), (none, (.pick (.tmp 5) (.tmp 10) (.const (.bool .false)), .some 11)), (none, (.mov (.tmp 11), .some 2))] []) .ret)
theorem b60 : Try.f60.body.bind (compC Try.prog) = some c60 := by kernel_rfl
theorem r60 : compR Try.prog Try.f60 = .some [.tmp 2] := by kernel_rfl
theorem n60 : (Try.f60.name == "runtime.NumGoroutine") = false := by kernel_rfl
def c77 : C := .seq
  (.reg [(none, (.mov (.const (.int .i64 0)), .some 2))] []) (.seq (.seq
  (.reg [(none, (.mov (.tmp 0), .some 3)), (none, (.eqp .false (.tmp 3) (.const (.pointer none)), .some 4))] []) (.cond (.tmp 4) (.seq
  (.reg [(none, (.mov (.const (.int .i64 0)), .some 2))] []) .ret) .skip)) (.seq
  (.reg [(none, (.mov (.tmp 0), .some 5)), (none, (.nilc (.tmp 5), .some 6)), (none, (.fadr 0 (.tmp 6), .some 7)), (none, (.load none (.tmp 7), .some 8)), (none, (.mov (.tmp 0), .some 9)), (none, (.nilc (.tmp 9), .some 10)), (none, (.fadr 1 (.tmp 10), .some 11)), (none, (.load none (.tmp 11), .some 12)), (none, (.len .false (.tmp 12), .some 13)), (none, (.bin .sub (.tmp 8) (.tmp 13), .some 14)), (none, (.mov (.tmp 14), .some 2))] [(3, 7)]) .ret))
theorem b77 : Try.f77.body.bind (compC Try.prog) = some c77 := by kernel_rfl
theorem r77 : compR Try.prog Try.f77 = .some [.tmp 2] := by kernel_rfl
theorem n77 : (Try.f77.name == "runtime.NumGoroutine") = false := by kernel_rfl
def c80 : C := .reg [(none, (.mov (.tmp 0), .some 6)), (none, (.mov (.tmp 1), .some 7)), (none, (.mov (.tmp 2), .some 8)), (none, (.call (.func 108) [.tmp 7, .tmp 8], .some 9)), (none, (.call (.func 30) [.tmp 6, .tmp 9], .some 10))] []
theorem b80 : Try.f80.body.bind (compC Try.prog) = some c80 := by kernel_rfl
theorem r80 : compR Try.prog Try.f80 = .some [] := by kernel_rfl
theorem n80 : (Try.f80.name == "runtime.NumGoroutine") = false := by kernel_rfl
def c84 : C := .seq
  (.reg [(none, (.mov (.const (.int .u32 0)), .some 2))] []) (.seq
  (.reg [(none, (.mov (.tmp 0), .some 3)), (none, (.call (.func 112) [.const (.int .u32 4294967295), .tmp 3], .some 4)), (none, (.bin .sub (.const (.int .u32 4294967295)) (.tmp 4), .some 5)), (none, (.mov (.tmp 5), .some 2))] []) .ret)
theorem b84 : Try.f84.body.bind (compC Try.prog) = some c84 := by kernel_rfl
theorem r84 : compR Try.prog Try.f84 = .some [.tmp 2] := by kernel_rfl
theorem n84 : (Try.f84.name == "runtime.NumGoroutine") = false := by kernel_rfl
def c93 : C := .seq
  (.reg [(none, (.mov (.const (.slice none 0 0)), .some 4))] []) (.seq (.seq
  (.reg [(none, (.mov (.tmp 0), .some 5)), (none, (.mov (.tmp 1), .some 6)), (none, (.call (.func 115) [.tmp 5, .tmp 6], .some 7)), (none, (.un .not (.tmp 7), .some 8))] []) (.cond (.tmp 8) (.seq
  (.reg [(none, (.mov (.const (.slice none 0 0)), .some 4))] []) .ret) .skip)) (.seq
  (.reg [(none, (.bsl 1 [], .some 9)), (none, (.mov (.tmp 0), .some 10)), (none, (.nilc (.tmp 10), .some 11)), (none, (.fadr 0 (.tmp 11), .some 12)), (none, (.load none (.tmp 12), .some 13)), (none, (.mov (.tmp 0), .some 14)), (none, (.nilc (.tmp 14), .some 15)), (none, (.fadr 1 (.tmp 15), .some 16)), (none, (.load none (.tmp 16), .some 17)), (none, (.mov (.tmp 1), .some 18)), (none, (.bin .sub (.tmp 17) (.tmp 18), .some 19)), (none, (.mov (.tmp 0), .some 20)), (none, (.nilc (.tmp 20), .some 21)), (none, (.fadr 1 (.tmp 21), .some 22)), (none, (.load none (.tmp 22), .some 23)), (none, (.slice 1 (.tmp 13) (.some (.tmp 19)) (.some (.tmp 23)) none, .some 24)), (none, (.app 1 1 (.tmp 9) (.tmp 24), .some 25)), (none, (.mov (.tmp 25), .some 4))] [(4, 8), (4, 14), (8, 14)]) .ret))
theorem b93 : Try.f93.body.bind (compC Try.prog) = some c93 := by kernel_rfl
theorem r93 : compR Try.prog Try.f93 = .some [.tmp 4] := by kernel_rfl
theorem n93 : (Try.f93.name == "runtime.NumGoroutine") = false := by kernel_rfl
def c98 : C := .seq
  (.reg [(none, (.box (.tmp 0), .some 2)), (none, (.new [.slice none 0 0, .int .i64 0, .int .i64 0, .int .i64 0], .some 4)), (none, (.mov (.const (.slice none 0 0)), .some 5))] []) (.seq (.seq
  (.reg [(none, (.fadr 2 (.tmp 2), .some 7)), (none, (.fadr 0 (.tmp 7), .some 8)), (none, (.load none (.tmp 8), .some 9)), (none, (.bin .neq (.tmp 9) (.const (.int .i64 0)), .some 10))] []) (.cond (.tmp 10) (.seq
  (.reg [(none, (.load (.some 4) (.tmp 2), .some 11)), (none, (.store 4 (.tmp 4) (.tmp 11), none)), (none, (.mov (.const (.slice none 0 0)), .some 5))] []) .ret) .skip)) (.seq (.seq
  (.reg [(none, (.mov (.tmp 1), .some 12)), (none, (.bin .lss (.tmp 12) (.const (.int .i64 0)), .some 13))] []) (.cond (.tmp 13) (.seq
  (.reg [(none, (.load (.some 4) (.tmp 2), .some 14)), (none, (.fadr 1 (.tmp 2), .some 15)), (none, (.load none (.tmp 15), .some 16)), (none, (.call (.func 97) [.tmp 14, .const (.int .i64 17), .tmp 16], .some 17)), (none, (.store 4 (.tmp 4) (.tmp 17), none)), (none, (.mov (.const (.slice none 0 0)), .some 5))] []) .ret) .skip)) (.seq (.seq
  (.reg [(none, (.mov (.tmp 1), .some 18)), (none, (.fadr 0 (.tmp 2), .some 19)), (none, (.load none (.tmp 19), .some 20)), (none, (.len .false (.tmp 20), .some 21)), (none, (.fadr 1 (.tmp 2), .some 22)), (none, (.load none (.tmp 22), .some 23)), (none, (.bin .sub (.tmp 21) (.tmp 23), .some 24)), (none, (.bin .gtr (.tmp 18) (.tmp 24), .some 25))] []) (.cond (.tmp 25) (.seq
  (.reg [(none, (.load (.some 4) (.tmp 2), .some 26)), (none, (.fadr 0 (.tmp 2), .some 27)), (none, (.load none (.tmp 27), .some 28)), (none, (.len .false (.tmp 28), .some 29)), (none, (.call (.func 97) [.tmp 26, .const (.int .i64 1), .tmp 29], .some 30)), (none, (.store 4 (.tmp 4) (.tmp 30), none)), (none, (.mov (.const (.slice none 0 0)), .some 5))] []) .ret) .skip)) (.seq
  (.reg [(none, (.mov (.const (.slice none 0 0)), .some 6))] []) (.seq
  (.reg [(none, (.mov (.tmp 6), .some 31)), (none, (.fadr 0 (.tmp 2), .some 32)), (none, (.load none (.tmp 32), .some 33)), (none, (.fadr 1 (.tmp 2), .some 34)), (none, (.load none (.tmp 34), .some 35)), (none, (.fadr 1 (.tmp 2), .some 36)), (none, (.load none (.tmp 36), .some 37)), (none, (.mov (.tmp 1), .some 38)), (none, (.bin .add (.tmp 37) (.tmp 38), .some 39)), (none, (.slice 1 (.tmp 33) (.some (.tmp 35)) (.some (.tmp 39)) none, .some 40)), (none, (.app 1 1 (.tmp 31) (.tmp 40), .some 41)), (none, (.mov (.tmp 41), .some 6))] []) (.seq
  (.reg [(none, (.fadr 1 (.tmp 2), .some 42)), (none, (.load none (.tmp 42), .some 43)), (none, (.mov (.tmp 1), .some 44)), (none, (.bin .add (.tmp 43) (.tmp 44), .some 45)), (none, (.fadr 1 (.tmp 2), .some 46)), (none, (.store 1 (.tmp 46) (.tmp 45), none))] []) (.seq
  (.reg [(none, (.load (.some 4) (.tmp 2), .some 47)), (none, (.mov (.tmp 6), .some 48)), (none, (.store 4 (.tmp 4) (.tmp 47), none)), (none, (.mov (.tmp 48), .some 5))] []) .ret)))))))
theorem b98 : Try.f98.body.bind (compC Try.prog) = some c98 := by kernel_rfl
theorem r98 : compR Try.prog Try.f98 = .some [.cell 4 (.some 4), .tmp 5] := by kernel_rfl
theorem n98 : (Try.f98.name == "runtime.NumGoroutine") = false := by kernel_rfl
def c100 : C := .seq
  (.reg [(none, (.mov (.const (.slice none 0 0)), .some 4))] []) (.seq
  (.reg [(none, (.mov (.tmp 0), .some 6)), (none, (.mov (.tmp 1), .some 7)), (none, (.call (.func 106) [.tmp 6, .tmp 7], .some 8)), (none, (.mov (.tmp 8), .some 5))] []) (.seq
  (.reg [(none, (.mov (.tmp 0), .some 9)), (none, (.mov (.tmp 5), .some 10)), (none, (.call (.func 93) [.tmp 9, .tmp 10], .some 11)), (none, (.mov (.tmp 11), .some 4))] []) .ret))
theorem b100 : Try.f100.body.bind (compC Try.prog) = some c100 := by kernel_rfl
theorem r100 : compR Try.prog Try.f100 = .some [.tmp 4] := by kernel_rfl
theorem n100 : (Try.f100.name == "runtime.NumGoroutine") = false := by kernel_rfl
def c108 : C := .seq
  (.reg [(none, (.mov (.const (.slice none 0 0)), .some 4))] []) (.seq
  (.reg [(none, (.mov (.const (.slice none 0 0)), .some 5))] []) (.seq (.seq
  (.reg [(none, (.mov (.tmp 1), .some 6)), (none, (.mx .true (.tmp 6) (.const (.int .i64 0)), .some 7)), (none, (.mx .false (.tmp 7) (.const (.int .i64 8)), .some 8)), (none, (.mov (.const (.int .i64 0)), .some 9))] []) (.block 0 (.loop (.seq
  (.reg [(none, (.bin .lss (.tmp 9) (.tmp 8), .some 10))] []) (.seq (.cond (.tmp 10) .skip (.exit 0)) (.seq (.block 1 (.seq
  (.reg [(none, (.mov (.tmp 5), .some 11)), (none, (.mov (.tmp 0), .some 12)), (none, (.bin .rem (.tmp 12) (.const (.int .u64 256)), .some 13)), (none, (.cvt .u8 (.tmp 13), .some 14)), (none, (.bsl 1 [.tmp 14], .some 15)), (none, (.app 1 1 (.tmp 11) (.tmp 15), .some 16)), (none, (.mov (.tmp 16), .some 5))] [])
  (.reg [(none, (.mov (.tmp 0), .some 17)), (none, (.bin .quo (.tmp 17) (.const (.int .u64 256)), .some 18)), (none, (.mov (.tmp 18), .some 0))] [])))
  (.reg [(none, (.bin .add (.tmp 9) (.const (.int .i64 1)), .some 19)), (none, (.mov (.tmp 19), .some 9))] []))))))) (.seq
  (.reg [(none, (.mov (.tmp 5), .some 20)), (none, (.mov (.tmp 20), .some 4))] []) .ret)))
theorem b108 : Try.f108.body.bind (compC Try.prog) = some c108 := by kernel_rfl
theorem r108 : compR Try.prog Try.f108 = .some [.tmp 4] := by kernel_rfl
theorem n108 : (Try.f108.name == "runtime.NumGoroutine") = false := by kernel_rfl
def c115 : C := .seq
  (.reg [(none, (.mov (.const (.bool .false)), .some 4))] []) (.seq (.block 0 (.seq
  (.reg [(none, (.mov (.tmp 0), .some 6)), (none, (.call (.func 60) [.tmp 6], .some 7)), (none, (.un .not (.tmp 7), .some 8)), (none, (.mov (.tmp 8), .some 5))] []) (.cond (.tmp 5) (.seq
  (.reg [(none, (.mov (.const (.bool .false)), .some 4))] []) .ret) (.seq
  (.reg [(none, (.mov (.tmp 1), .some 10)), (none, (.bin .lss (.tmp 10) (.const (.int .i64 0)), .some 11)), (none, (.mov (.tmp 11), .some 9))] []) (.cond (.tmp 9) (.seq
  (.reg [(none, (.mov (.tmp 0), .some 12)), (none, (.mov (.tmp 0), .some 13)), (none, (.nilc (.tmp 13), .some 14)), (none, (.fadr 1 (.tmp 14), .some 15)), (none, (.load none (.tmp 15), .some 16)), (none, (.call (.func 92) [.tmp 12, .const (.int .i64 17), .tmp 16], .some 17))] []) (.seq
  (.reg [(none, (.mov (.const (.bool .false)), .some 4))] []) .ret)) (.seq
  (.reg [(none, (.mov (.tmp 1), .some 19)), (none, (.mov (.tmp 0), .some 20)), (none, (.call (.func 91) [.tmp 20], .some 21)), (none, (.bin .gtr (.tmp 19) (.tmp 21), .some 22)), (none, (.mov (.tmp 22), .some 18))] []) (.cond (.tmp 18) (.seq
  (.reg [(none, (.mov (.tmp 0), .some 23)), (none, (.mov (.tmp 0), .some 24)), (none, (.nilc (.tmp 24), .some 25)), (none, (.fadr 0 (.tmp 25), .some 26)), (none, (.load none (.tmp 26), .some 27)), (none, (.len .false (.tmp 27), .some 28)), (none, (.call (.func 92) [.tmp 23, .const (.int .i64 1), .tmp 28], .some 29))] []) (.seq
  (.reg [(none, (.mov (.const (.bool .false)), .some 4))] []) .ret)) .skip))))))) (.seq
  (.reg [(none, (.mov (.tmp 0), .some 30)), (none, (.nilc (.tmp 30), .some 31)), (none, (.fadr 1 (.tmp 31), .some 32)), (none, (.load none (.tmp 32), .some 33)), (none, (.mov (.tmp 1), .some 34)), (none, (.bin .add (.tmp 33) (.tmp 34), .some 35)), (none, (.nilc (.tmp 30), .some 36)), (none, (.fadr 1 (.tmp 36), .some 37)), (none, (.store 1 (.tmp 37) (.tmp 35), none))] []) (.seq
  (.reg [(none, (.mov (.const (.bool .true)), .some 4))] []) .ret)))
theorem b115 : Try.f115.body.bind (compC Try.prog) = some c115 := by kernel_rfl
theorem r115 : compR Try.prog Try.f115 = .some [.tmp 4] := by kernel_rfl
theorem n115 : (Try.f115.name == "runtime.NumGoroutine") = false := by kernel_rfl
def c117 : C := .seq
  (.reg [(none, (.mov (.const (.int .u8 0)), .some 2))] []) (.seq (.seq
  (.reg [(none, (.mov (.tmp 0), .some 3)), (none, (.call (.func 115) [.tmp 3, .const (.int .i64 1)], .some 4)), (none, (.un .not (.tmp 4), .some 5))] []) (.cond (.tmp 5) (.seq
  (.reg [(none, (.mov (.const (.int .u8 0)), .some 2))] []) .ret) .skip)) (.seq
  (.reg [(none, (.mov (.tmp 0), .some 6)), (none, (.nilc (.tmp 6), .some 7)), (none, (.fadr 0 (.tmp 7), .some 8)), (none, (.load none (.tmp 8), .some 9)), (none, (.mov (.tmp 0), .some 10)), (none, (.nilc (.tmp 10), .some 11)), (none, (.fadr 1 (.tmp 11), .some 12)), (none, (.load none (.tmp 12), .some 13)), (none, (.bin .sub (.tmp 13) (.const (.int .i64 1)), .some 14)), (none, (.iadr 1 (.tmp 9) (.tmp 14), .some 15)), (none, (.load none (.tmp 15), .some 16)), (none, (.mov (.tmp 16), .some 2))] [(3, 7)]) .ret))
theorem b117 : Try.f117.body.bind (compC Try.prog) = some c117 := by kernel_rfl
theorem r117 : compR Try.prog Try.f117 = .some [.tmp 2] := by kernel_rfl
theorem n117 : (Try.f117.name == "runtime.NumGoroutine") = false := by kernel_rfl
def c120 : C := .seq
  (.reg [(none, (.new [.int .u32 0, .int .u32 0, .int .u32 0, .int .u32 0, .int .u32 0, .int .u32 0, .int .u32 0, .int .u32 0, .int .u32 0, .int .u32 0, .int .u32 0, .int .u32 0, .int .u32 0, .int .u32 0, .int .u32 0, .int .u32 0], .some 0))] []) (.seq
  (.reg [(none, (.new [.int .u32 0, .int .u32 0, .int .u32 0, .int .u32 0, .int .u32 0, .int .u32 0, .int .u32 0, .int .u32 0, .int .u32 0, .int .u32 0, .int .u32 0, .int .u32 0, .int .u32 0, .int .u32 0, .int .u32 0, .int .u32 0], .some 1))] []) (.seq (.seq
  (.reg [(none, (.mov (.const (.int .i64 0)), .some 4))] []) (.block 0 (.loop (.seq
  (.reg [(none, (.bin .lss (.tmp 4) (.const (.int .i64 16)), .some 5))] []) (.seq (.cond (.tmp 5) .skip (.exit 0)) (.seq (.block 1 (.seq
  (.reg [(none, (.mov (.tmp 4), .some 6)), (none, (.mov (.tmp 6), .some 2))] []) (.seq
  (.reg [(none, (.mov (.tmp 2), .some 7)), (none, (.cvt .u32 (.tmp 7), .some 8)), (none, (.mov (.tmp 8), .some 3))] []) (.seq (.seq
  (.reg [(none, (.mov (.const (.int .i64 0)), .some 9))] []) (.block 2 (.loop (.seq
  (.reg [(none, (.bin .lss (.tmp 9) (.const (.int .i64 4)), .some 10))] []) (.seq (.cond (.tmp 10) .skip (.exit 2)) (.seq (.block 3
  (.reg [(none, (.mov (.tmp 3), .some 11)), (none, (.call (.func 122) [.tmp 11], .some 12)), (none, (.mov (.tmp 12), .some 3))] []))
  (.reg [(none, (.bin .add (.tmp 9) (.const (.int .i64 1)), .some 13)), (none, (.mov (.tmp 13), .some 9))] [])))))))
  (.reg [(none, (.mov (.tmp 2), .some 14)), (none, (.mov (.tmp 3), .some 15)), (none, (.aadr 16 1 (.tmp 1) (.tmp 14), .some 16)), (none, (.store 1 (.tmp 16) (.tmp 15), none))] [])))))
  (.reg [(none, (.bin .add (.tmp 4) (.const (.int .i64 1)), .some 17)), (none, (.mov (.tmp 17), .some 4))] []))))))) (.seq
  (.reg [(none, (.load (.some 16) (.tmp 1), .some 18)), (none, (.store 16 (.tmp 0) (.tmp 18), none))] []) .ret)))
theorem b120 : Try.f120.body.bind (compC Try.prog) = some c120 := by kernel_rfl
theorem r120 : compR Try.prog Try.f120 = .some [.cell 0 (.some 16)] := by kernel_rfl
theorem n120 : (Try.f120.name == "runtime.NumGoroutine") = false := by kernel_rfl
def c121 : C := .seq
  (.reg [(none, (.mov (.const (.int .u32 0)), .some 4))] []) (.seq
  (.reg [(none, (.mov (.tmp 0), .some 7)), (none, (.mov (.tmp 1), .some 8)), (none, (.cvt .u32 (.tmp 8), .some 9)), (none, (.bin .xor (.tmp 7) (.tmp 9), .some 10)), (none, (.mov (.tmp 10), .some 0))] []) (.seq (.seq
  (.reg [(none, (.mov (.const (.int .i64 0)), .some 5))] []) (.block 0 (.loop (.seq (.seq
  (.reg [(none, (.mov (.tmp 5), .some 11)), (none, (.bin .lss (.tmp 11) (.const (.int .i64 8)), .some 12))] []) (.cond (.tmp 12) .skip (.exit 0))) (.seq (.block 1 (.seq
  (.reg [(none, (.mov (.tmp 0), .some 15)), (none, (.bin .rem (.tmp 15) (.const (.int .u32 2)), .some 16)), (none, (.mov (.tmp 16), .some 6))] []) (.seq
  (.reg [(none, (.mov (.tmp 0), .some 17)), (none, (.bin .quo (.tmp 17) (.const (.int .u32 2)), .some 18)), (none, (.mov (.tmp 18), .some 0))] []) (.seq
  (.reg [(none, (.mov (.tmp 6), .some 19)), (none, (.bin .eql (.tmp 19) (.const (.int .u32 1)), .some 20))] []) (.cond (.tmp 20)
  (.reg [(none, (.mov (.tmp 0), .some 21)), (none, (.bin .xor (.tmp 21) (.const (.int .u32 2197175160)), .some 22)), (none, (.mov (.tmp 22), .some 0))] []) .skip)))))
  (.reg [(none, (.mov (.tmp 5), .some 13)), (none, (.bin .add (.tmp 13) (.const (.int .i64 1)), .some 14)), (none, (.mov (.tmp 14), .some 5))] [])))))) (.seq
  (.reg [(none, (.mov (.tmp 0), .some 23)), (none, (.mov (.tmp 23), .some 4))] []) .ret)))
theorem b121 : Try.f121.body.bind (compC Try.prog) = some c121 := by kernel_rfl
theorem r121 : compR Try.prog Try.f121 = .some [.tmp 4] := by kernel_rfl
theorem n121 : (Try.f121.name == "runtime.NumGoroutine") = false := by kernel_rfl
end Go.Proofs.Ytpjkmidjjodplaa
