/-
  The codes of the seat's functions over abstract values, each shown to be its function's own (by program: wip/tools/codes.py).
-/
import Derived.Test.YtkhnfleejgfhgaaA2
import Derived.Test.YtkhnfleejgfhgaaProg
import Derived.KernelRfl
namespace Go.Proofs.Ytkhnfleejgfhgaa
def c55 : C := .seq
  (.reg [(none, (.mov (.const (.slice none 0 0)), .some 2)), (none, (.mov (.const (.int .i64 0)), .some 3))] []) (.seq (.seq
  (.reg [(none, (.mov (.tmp 0), .some 5)), (none, (.call (.func 130) [.tmp 5], .some 6)), (none, (.mov (.tmp 6), .some 4))] []) (.seq
  (.reg [(none, (.mov (.tmp 4), .some 7)), (none, (.bin .neq (.tmp 7) (.const (.int .i64 0)), .some 8))] []) (.cond (.tmp 8) (.seq
  (.reg [(none, (.mov (.tmp 4), .some 9)), (none, (.mov (.const (.slice none 0 0)), .some 2)), (none, (.mov (.tmp 9), .some 3))] []) .ret) .skip))) (.seq
  (.reg [(none, (.bsl 1 [], .some 10)), (none, (.mov (.tmp 0), .some 11)), (none, (.nilc (.tmp 11), .some 12)), (none, (.fadr 1 (.tmp 12), .some 13)), (none, (.load none (.tmp 13), .some 14)), (none, (.app 1 1 (.tmp 10) (.tmp 14), .some 15)), (none, (.mov (.tmp 15), .some 2)), (none, (.mov (.const (.int .i64 0)), .some 3))] []) .ret))
theorem b55 : Try.f55.body.bind (compC Try.prog) = some c55 := by kernel_rfl
theorem r55 : compR Try.prog Try.f55 = .some [.tmp 2, .tmp 3] := by kernel_rfl
theorem n55 : (Try.f55.name == "runtime.NumGoroutine") = false := by kernel_rfl
def c100 : C := .seq
  (.reg [(none, (.mov (.const (.int .u64 0)), .some 2))] []) (.scope (.seq
  (.reg [(none, (.mov (.const (.int .u64 0)), .some 3))] []) (.seq
  (.reg [(none, (.mov (.const (.int .u8 0)), .some 4))] []) (.seq
  (.reg [(none, (.mov (.tmp 0), .some 7)), (none, (.call (.func 49) [.tmp 7], .some 8)), (none, (.mov (.const (.int .i64 0)), .some 5)), (none, (.mov (.tmp 8), .some 6))] []) (.seq (.label 0) (.seq
  (.reg [(none, (.mov (.tmp 0), .some 9)), (none, (.call (.func 96) [.tmp 9], .some 10)), (none, (.mov (.tmp 10), .some 4))] []) (.seq (.block 0 (.seq
  (.reg [(none, (.mov (.tmp 0), .some 12)), (none, (.call (.func 57) [.tmp 12], .some 13)), (none, (.un .not (.tmp 13), .some 14)), (none, (.mov (.tmp 14), .some 11))] []) (.cond (.tmp 11) (.seq
  (.reg [(none, (.mov (.const (.int .u64 0)), .some 2))] []) .ret) (.seq
  (.reg [(none, (.mov (.tmp 5), .some 16)), (none, (.bin .eql (.tmp 16) (.const (.int .i64 63)), .some 17)), (none, (.mov (.tmp 17), .some 18)), (.some (18, .true), (.mov (.tmp 4), .some 19)), (.some (18, .true), (.bin .gtr (.tmp 19) (.const (.int .u8 1)), .some 20)), (none, (.pick (.tmp 18) (.tmp 20) (.const (.bool .false)), .some 21)), (none, (.mov (.tmp 21), .some 15))] []) (.cond (.tmp 15) (.seq
  (.reg [(none, (.mov (.tmp 0), .some 22)), (none, (.mov (.tmp 0), .some 23)), (none, (.call (.func 49) [.tmp 23], .some 24)), (none, (.bin .sub (.tmp 24) (.const (.int .i64 1)), .some 25)), (none, (.call (.func 97) [.tmp 22, .const (.int .i64 5), .tmp 25], .some 26))] []) (.seq
  (.reg [(none, (.mov (.const (.int .u64 0)), .some 2))] []) .ret)) (.seq
  (.reg [(none, (.mov (.tmp 4), .some 28)), (none, (.bin .eql (.tmp 28) (.const (.int .u8 0)), .some 29)), (none, (.mov (.tmp 29), .some 30)), (.some (30, .true), (.mov (.tmp 0), .some 31)), (.some (30, .true), (.call (.func 49) [.tmp 31], .some 32)), (.some (30, .true), (.bin .sub (.tmp 32) (.const (.int .i64 1)), .some 33)), (.some (30, .true), (.mov (.tmp 6), .some 34)), (.some (30, .true), (.bin .gtr (.tmp 33) (.tmp 34), .some 35)), (none, (.pick (.tmp 30) (.tmp 35) (.const (.bool .false)), .some 36)), (none, (.mov (.tmp 36), .some 27))] []) (.cond (.tmp 27) (.seq
  (.reg [(none, (.mov (.tmp 0), .some 37)), (none, (.mov (.tmp 0), .some 38)), (none, (.call (.func 49) [.tmp 38], .some 39)), (none, (.bin .sub (.tmp 39) (.const (.int .i64 1)), .some 40)), (none, (.call (.func 97) [.tmp 37, .const (.int .i64 4), .tmp 40], .some 41))] []) (.seq
  (.reg [(none, (.mov (.const (.int .u64 0)), .some 2))] []) .ret)) .skip))))))) (.seq
  (.reg [(none, (.mov (.tmp 3), .some 42)), (none, (.mov (.tmp 4), .some 43)), (none, (.bin .rem (.tmp 43) (.const (.int .u8 128)), .some 44)), (none, (.cvt .u64 (.tmp 44), .some 45)), (none, (.mov (.tmp 5), .some 46)), (none, (.bin .shl (.tmp 45) (.tmp 46), .some 47)), (none, (.bin .or (.tmp 42) (.tmp 47), .some 48)), (none, (.mov (.tmp 48), .some 3))] []) (.seq
  (.reg [(none, (.mov (.tmp 5), .some 49)), (none, (.bin .add (.tmp 49) (.const (.int .i64 7)), .some 50)), (none, (.mov (.tmp 50), .some 5))] []) (.seq (.seq
  (.reg [(none, (.mov (.tmp 4), .some 51)), (none, (.bin .geq (.tmp 51) (.const (.int .u8 128)), .some 52))] []) (.cond (.tmp 52) (.goto 0) .skip)) (.seq
  (.reg [(none, (.mov (.tmp 3), .some 53)), (none, (.mov (.tmp 53), .some 2))] []) .ret)))))))))))
theorem b100 : Try.f100.body.bind (compC Try.prog) = some c100 := by kernel_rfl
theorem r100 : compR Try.prog Try.f100 = .some [.tmp 2] := by kernel_rfl
theorem n100 : (Try.f100.name == "runtime.NumGoroutine") = false := by kernel_rfl
def c103 : C := .seq
  (.reg [(none, (.box (.tmp 0), .some 2)), (none, (.new [.slice none 0 0, .int .i64 0, .int .i64 0, .int .i64 0], .some 4)), (none, (.mov (.const (.slice none 0 0)), .some 5))] []) (.seq (.seq
  (.reg [(none, (.fadr 2 (.tmp 2), .some 7)), (none, (.fadr 0 (.tmp 7), .some 8)), (none, (.load none (.tmp 8), .some 9)), (none, (.bin .neq (.tmp 9) (.const (.int .i64 0)), .some 10))] []) (.cond (.tmp 10) (.seq
  (.reg [(none, (.load (.some 4) (.tmp 2), .some 11)), (none, (.store 4 (.tmp 4) (.tmp 11), none)), (none, (.mov (.const (.slice none 0 0)), .some 5))] []) .ret) .skip)) (.seq (.seq
  (.reg [(none, (.mov (.tmp 1), .some 12)), (none, (.bin .lss (.tmp 12) (.const (.int .i64 0)), .some 13))] []) (.cond (.tmp 13) (.seq
  (.reg [(none, (.load (.some 4) (.tmp 2), .some 14)), (none, (.fadr 1 (.tmp 2), .some 15)), (none, (.load none (.tmp 15), .some 16)), (none, (.call (.func 104) [.tmp 14, .const (.int .i64 17), .tmp 16], .some 17)), (none, (.store 4 (.tmp 4) (.tmp 17), none)), (none, (.mov (.const (.slice none 0 0)), .some 5))] []) .ret) .skip)) (.seq (.seq
  (.reg [(none, (.mov (.tmp 1), .some 18)), (none, (.fadr 0 (.tmp 2), .some 19)), (none, (.load none (.tmp 19), .some 20)), (none, (.len .false (.tmp 20), .some 21)), (none, (.fadr 1 (.tmp 2), .some 22)), (none, (.load none (.tmp 22), .some 23)), (none, (.bin .sub (.tmp 21) (.tmp 23), .some 24)), (none, (.bin .gtr (.tmp 18) (.tmp 24), .some 25))] []) (.cond (.tmp 25) (.seq
  (.reg [(none, (.load (.some 4) (.tmp 2), .some 26)), (none, (.fadr 0 (.tmp 2), .some 27)), (none, (.load none (.tmp 27), .some 28)), (none, (.len .false (.tmp 28), .some 29)), (none, (.call (.func 104) [.tmp 26, .const (.int .i64 1), .tmp 29], .some 30)), (none, (.store 4 (.tmp 4) (.tmp 30), none)), (none, (.mov (.const (.slice none 0 0)), .some 5))] []) .ret) .skip)) (.seq
  (.reg [(none, (.mov (.const (.slice none 0 0)), .some 6))] []) (.seq
  (.reg [(none, (.mov (.tmp 6), .some 31)), (none, (.fadr 0 (.tmp 2), .some 32)), (none, (.load none (.tmp 32), .some 33)), (none, (.fadr 1 (.tmp 2), .some 34)), (none, (.load none (.tmp 34), .some 35)), (none, (.fadr 1 (.tmp 2), .some 36)), (none, (.load none (.tmp 36), .some 37)), (none, (.mov (.tmp 1), .some 38)), (none, (.bin .add (.tmp 37) (.tmp 38), .some 39)), (none, (.slice 1 (.tmp 33) (.some (.tmp 35)) (.some (.tmp 39)) none, .some 40)), (none, (.app 1 1 (.tmp 31) (.tmp 40), .some 41)), (none, (.mov (.tmp 41), .some 6))] []) (.seq
  (.reg [(none, (.fadr 1 (.tmp 2), .some 42)), (none, (.load none (.tmp 42), .some 43)), (none, (.mov (.tmp 1), .some 44)), (none, (.bin .add (.tmp 43) (.tmp 44), .some 45)), (none, (.fadr 1 (.tmp 2), .some 46)), (none, (.store 1 (.tmp 46) (.tmp 45), none))] []) (.seq
  (.reg [(none, (.load (.some 4) (.tmp 2), .some 47)), (none, (.mov (.tmp 6), .some 48)), (none, (.store 4 (.tmp 4) (.tmp 47), none)), (none, (.mov (.tmp 48), .some 5))] []) .ret)))))))
theorem b103 : Try.f103.body.bind (compC Try.prog) = some c103 := by kernel_rfl
theorem r103 : compR Try.prog Try.f103 = .some [.cell 4 (.some 4), .tmp 5] := by kernel_rfl
theorem n103 : (Try.f103.name == "runtime.NumGoroutine") = false := by kernel_rfl
def c104 : C := .seq
  (.reg [(none, (.box (.tmp 0), .some 3)), (none, (.new [.slice none 0 0, .int .i64 0, .int .i64 0, .int .i64 0], .some 6))] []) (.seq (.seq
  (.reg [(none, (.fadr 2 (.tmp 3), .some 7)), (none, (.fadr 0 (.tmp 7), .some 8)), (none, (.load none (.tmp 8), .some 9)), (none, (.bin .eql (.tmp 9) (.const (.int .i64 0)), .some 10))] []) (.cond (.tmp 10)
  (.reg [(none, (.mov (.tmp 1), .some 11)), (none, (.mov (.tmp 2), .some 12)), (none, (.call (.func 156) [.tmp 11, .tmp 12], .some 13)), (none, (.fadr 2 (.tmp 3), .some 14)), (none, (.store 2 (.tmp 14) (.tmp 13), none))] []) .skip)) (.seq
  (.reg [(none, (.load (.some 4) (.tmp 3), .some 15)), (none, (.store 4 (.tmp 6) (.tmp 15), none))] []) .ret))
theorem b104 : Try.f104.body.bind (compC Try.prog) = some c104 := by kernel_rfl
theorem r104 : compR Try.prog Try.f104 = .some [.cell 6 (.some 4)] := by kernel_rfl
theorem n104 : (Try.f104.name == "runtime.NumGoroutine") = false := by kernel_rfl
def c109 : C := .seq
  (.reg [(none, (.mov (.const (.bool .false)), .some 2))] []) (.seq
  (.reg [(none, (.mov (.tmp 0), .some 3)), (none, (.bin .gtr (.tmp 3) (.const (.int .u64 0)), .some 4)), (none, (.mov (.tmp 4), .some 5)), (.some (5, .true), (.mov (.tmp 0), .some 6)), (.some (5, .true), (.bin .leq (.tmp 6) (.const (.int .u64 4611686018427387903)), .some 7)), (none, (.pick (.tmp 5) (.tmp 7) (.const (.bool .false)), .some 8)), (none, (.mov (.tmp 8), .some 2))] []) .ret)
theorem b109 : Try.f109.body.bind (compC Try.prog) = some c109 := by kernel_rfl
theorem r109 : compR Try.prog Try.f109 = .some [.tmp 2] := by kernel_rfl
theorem n109 : (Try.f109.name == "runtime.NumGoroutine") = false := by kernel_rfl
def c126 : C := .seq
  (.reg [(none, (.mov (.tmp 0), .some 4)), (none, (.call (.func 130) [.tmp 4], .some 5)), (none, (.bin .eql (.tmp 5) (.const (.int .i64 0)), .some 6))] []) (.cond (.tmp 6)
  (.reg [(none, (.mov (.tmp 0), .some 7)), (none, (.mov (.tmp 1), .some 8)), (none, (.nilc (.tmp 7), .some 9)), (none, (.fadr 2 (.tmp 9), .some 10)), (none, (.store 1 (.tmp 10) (.tmp 8), none))] []) .skip)
theorem b126 : Try.f126.body.bind (compC Try.prog) = some c126 := by kernel_rfl
theorem r126 : compR Try.prog Try.f126 = .some [] := by kernel_rfl
theorem n126 : (Try.f126.name == "runtime.NumGoroutine") = false := by kernel_rfl
def c130 : C := .seq
  (.reg [(none, (.mov (.const (.int .i64 0)), .some 2))] []) (.seq (.seq
  (.reg [(none, (.mov (.tmp 0), .some 3)), (none, (.eqp .false (.tmp 3) (.const (.pointer none)), .some 4))] []) (.cond (.tmp 4) (.seq
  (.reg [(none, (.mov (.const (.int .i64 19)), .some 2))] []) .ret) .skip)) (.seq
  (.reg [(none, (.mov (.tmp 0), .some 5)), (none, (.nilc (.tmp 5), .some 6)), (none, (.fadr 2 (.tmp 6), .some 7)), (none, (.load none (.tmp 7), .some 8)), (none, (.mov (.tmp 8), .some 2))] []) .ret))
theorem b130 : Try.f130.body.bind (compC Try.prog) = some c130 := by kernel_rfl
theorem r130 : compR Try.prog Try.f130 = .some [.tmp 2] := by kernel_rfl
theorem n130 : (Try.f130.name == "runtime.NumGoroutine") = false := by kernel_rfl
def c141 : C := .reg [(none, (.mov (.tmp 0), .some 6)), (none, (.mov (.tmp 1), .some 7)), (none, (.mov (.tmp 2), .some 8)), (none, (.call (.func 162) [.tmp 7, .tmp 8], .some 9)), (none, (.call (.func 140) [.tmp 6, .tmp 9], .some 10))] []
theorem b141 : Try.f141.body.bind (compC Try.prog) = some c141 := by kernel_rfl
theorem r141 : compR Try.prog Try.f141 = .some [] := by kernel_rfl
theorem n141 : (Try.f141.name == "runtime.NumGoroutine") = false := by kernel_rfl
def c156 : C := .seq
  (.reg [(none, (.new [.int .i64 0, .int .i64 0], .some 4))] []) (.seq
  (.reg [(none, (.build [.int .i64 0, .int .i64 0] [], .some 6)), (none, (.new [.int .i64 0, .int .i64 0], .some 5)), (none, (.store 2 (.tmp 5) (.tmp 6), none))] []) (.seq (.seq
  (.reg [(none, (.mov (.tmp 0), .some 7)), (none, (.bin .neq (.tmp 7) (.const (.int .i64 0)), .some 8))] []) (.cond (.tmp 8)
  (.reg [(none, (.mov (.tmp 0), .some 9)), (none, (.mov (.tmp 1), .some 10)), (none, (.fadr 0 (.tmp 5), .some 11)), (none, (.store 1 (.tmp 11) (.tmp 9), none)), (none, (.fadr 1 (.tmp 5), .some 12)), (none, (.store 1 (.tmp 12) (.tmp 10), none))] []) .skip)) (.seq
  (.reg [(none, (.load (.some 2) (.tmp 5), .some 13)), (none, (.store 2 (.tmp 4) (.tmp 13), none))] []) .ret)))
theorem b156 : Try.f156.body.bind (compC Try.prog) = some c156 := by kernel_rfl
theorem r156 : compR Try.prog Try.f156 = .some [.cell 4 (.some 2)] := by kernel_rfl
theorem n156 : (Try.f156.name == "runtime.NumGoroutine") = false := by kernel_rfl
def c163 : C := .reg [(none, (.mov (.tmp 0), .some 4)), (none, (.mov (.tmp 1), .some 5)), (none, (.s2b (.tmp 5), .some 6)), (none, (.call (.func 140) [.tmp 4, .tmp 6], .some 7))] []
theorem b163 : Try.f163.body.bind (compC Try.prog) = some c163 := by kernel_rfl
theorem r163 : compR Try.prog Try.f163 = .some [] := by kernel_rfl
theorem n163 : (Try.f163.name == "runtime.NumGoroutine") = false := by kernel_rfl
def c164 : C := .seq
  (.reg [(none, (.mov (.const (.int .u64 0)), .some 4))] []) (.seq
  (.reg [(none, (.mov (.tmp 0), .some 7)), (none, (.call (.func 49) [.tmp 7], .some 8)), (none, (.mov (.tmp 8), .some 5))] []) (.seq
  (.reg [(none, (.mov (.tmp 0), .some 9)), (none, (.call (.func 100) [.tmp 9], .some 10)), (none, (.mov (.tmp 10), .some 6))] []) (.seq (.seq
  (.reg [(none, (.mov (.tmp 1), .some 11)), (none, (.mov (.tmp 6), .some 12)), (none, (.call (.tmp 11) [.tmp 12], .some 13)), (none, (.un .not (.tmp 13), .some 14))] []) (.cond (.tmp 14)
  (.reg [(none, (.mov (.tmp 0), .some 15)), (none, (.mov (.tmp 5), .some 16)), (none, (.call (.func 97) [.tmp 15, .const (.int .i64 3), .tmp 16], .some 17))] []) .skip)) (.seq (.seq
  (.reg [(none, (.mov (.tmp 0), .some 18)), (none, (.call (.func 57) [.tmp 18], .some 19)), (none, (.un .not (.tmp 19), .some 20))] []) (.cond (.tmp 20) (.seq
  (.reg [(none, (.mov (.const (.int .u64 0)), .some 4))] []) .ret) .skip)) (.seq
  (.reg [(none, (.mov (.tmp 6), .some 21)), (none, (.mov (.tmp 21), .some 4))] []) .ret)))))
theorem b164 : Try.f164.body.bind (compC Try.prog) = some c164 := by kernel_rfl
theorem r164 : compR Try.prog Try.f164 = .some [.tmp 4] := by kernel_rfl
theorem n164 : (Try.f164.name == "runtime.NumGoroutine") = false := by kernel_rfl
def c166 : C := .seq
  (.reg [(none, (.box (.tmp 0), .some 2)), (none, (.new [.slice none 0 0, .int .i64 0, .int .i64 0, .int .i64 0], .some 4)), (none, (.mov (.const (.int .u64 0)), .some 5))] []) (.seq
  (.reg [(none, (.fadr 1 (.tmp 2), .some 9)), (none, (.load none (.tmp 9), .some 10)), (none, (.mov (.tmp 10), .some 6))] []) (.seq
  (.reg [(none, (.load (.some 4) (.tmp 2), .some 12)), (none, (.call (.func 107) [.tmp 12], .some 13)), (none, (.mov (.tmp 13), .some 11)), (none, (.ext (.tmp 11) 0, .some 14)), (none, (.ext (.tmp 11) 1, .some 15)), (none, (.new [.slice none 0 0, .int .i64 0, .int .i64 0, .int .i64 0], .some 7)), (none, (.store 4 (.tmp 7) (.tmp 14), none)), (none, (.mov (.tmp 15), .some 8))] []) (.seq (.seq
  (.reg [(none, (.mov (.tmp 8), .some 16)), (none, (.mov (.tmp 1), .some 17)), (none, (.bin .gtr (.tmp 16) (.tmp 17), .some 18))] []) (.cond (.tmp 18) (.seq
  (.reg [(none, (.load (.some 4) (.tmp 7), .some 19)), (none, (.mov (.tmp 6), .some 20)), (none, (.call (.func 104) [.tmp 19, .const (.int .i64 2), .tmp 20], .some 21)), (none, (.store 4 (.tmp 4) (.tmp 21), none)), (none, (.mov (.const (.int .u64 0)), .some 5))] []) .ret) .skip)) (.seq
  (.reg [(none, (.load (.some 4) (.tmp 7), .some 22)), (none, (.mov (.tmp 8), .some 23)), (none, (.store 4 (.tmp 4) (.tmp 22), none)), (none, (.mov (.tmp 23), .some 5))] []) .ret))))
theorem b166 : Try.f166.body.bind (compC Try.prog) = some c166 := by kernel_rfl
theorem r166 : compR Try.prog Try.f166 = .some [.cell 4 (.some 4), .tmp 5] := by kernel_rfl
theorem n166 : (Try.f166.name == "runtime.NumGoroutine") = false := by kernel_rfl
def c167 : C := .seq
  (.reg [(none, (.mov (.const (.int .u64 0)), .some 2)), (none, (.mov (.const (.int .i64 0)), .some 3)), (none, (.new [.int .i64 0, .int .i64 0], .some 4))] []) (.seq (.seq
  (.reg [(none, (.mov (.const (.int .i64 0)), .some 5))] []) (.block 0 (.loop (.seq (.seq
  (.reg [(none, (.mov (.tmp 5), .some 8)), (none, (.mov (.tmp 0), .some 9)), (none, (.len .false (.tmp 9), .some 10)), (none, (.bin .lss (.tmp 8) (.tmp 10), .some 11))] []) (.cond (.tmp 11) .skip (.exit 0))) (.seq (.block 1 (.seq (.seq
  (.reg [(none, (.mov (.tmp 5), .some 14)), (none, (.bin .eql (.tmp 14) (.const (.int .i64 9)), .some 15)), (none, (.mov (.tmp 15), .some 16)), (.some (16, .true), (.mov (.tmp 0), .some 17)), (.some (16, .true), (.mov (.tmp 5), .some 18)), (.some (16, .true), (.iadr 1 (.tmp 17) (.tmp 18), .some 19)), (.some (16, .true), (.load none (.tmp 19), .some 20)), (.some (16, .true), (.bin .gtr (.tmp 20) (.const (.int .u8 1)), .some 21)), (none, (.pick (.tmp 16) (.tmp 21) (.const (.bool .false)), .some 22))] []) (.cond (.tmp 22) (.seq
  (.reg [(none, (.mov (.tmp 5), .some 23)), (none, (.call (.func 156) [.const (.int .i64 5), .tmp 23], .some 24)), (none, (.mov (.const (.int .u64 0)), .some 2)), (none, (.mov (.const (.int .i64 0)), .some 3)), (none, (.store 2 (.tmp 4) (.tmp 24), none))] []) .ret) .skip)) (.seq (.seq
  (.reg [(none, (.mov (.tmp 5), .some 25)), (none, (.bin .gtr (.tmp 25) (.const (.int .i64 0)), .some 26)), (none, (.mov (.tmp 26), .some 27)), (.some (27, .true), (.mov (.tmp 0), .some 28)), (.some (27, .true), (.mov (.tmp 5), .some 29)), (.some (27, .true), (.iadr 1 (.tmp 28) (.tmp 29), .some 30)), (.some (27, .true), (.load none (.tmp 30), .some 31)), (.some (27, .true), (.bin .eql (.tmp 31) (.const (.int .u8 0)), .some 32)), (none, (.pick (.tmp 27) (.tmp 32) (.const (.bool .false)), .some 33))] []) (.cond (.tmp 33) (.seq
  (.reg [(none, (.mov (.tmp 5), .some 34)), (none, (.call (.func 156) [.const (.int .i64 4), .tmp 34], .some 35)), (none, (.mov (.const (.int .u64 0)), .some 2)), (none, (.mov (.const (.int .i64 0)), .some 3)), (none, (.store 2 (.tmp 4) (.tmp 35), none))] []) .ret) .skip)) (.seq
  (.reg [(none, (.mov (.tmp 0), .some 36)), (none, (.mov (.tmp 5), .some 37)), (none, (.iadr 1 (.tmp 36) (.tmp 37), .some 38)), (none, (.load none (.tmp 38), .some 39)), (none, (.bin .lss (.tmp 39) (.const (.int .u8 128)), .some 40))] []) (.cond (.tmp 40) (.seq
  (.reg [(none, (.mov (.const (.int .u64 0)), .some 6))] []) (.seq (.seq
  (.reg [(none, (.mov (.tmp 5), .some 41)), (none, (.mov (.tmp 41), .some 7))] []) (.block 2 (.loop (.seq (.seq
  (.reg [(none, (.mov (.tmp 7), .some 42)), (none, (.bin .geq (.tmp 42) (.const (.int .i64 0)), .some 43))] []) (.cond (.tmp 43) .skip (.exit 2))) (.seq (.block 3
  (.reg [(none, (.mov (.tmp 6), .some 46)), (none, (.bin .mul (.const (.int .u64 128)) (.tmp 46), .some 47)), (none, (.mov (.tmp 0), .some 48)), (none, (.mov (.tmp 7), .some 49)), (none, (.iadr 1 (.tmp 48) (.tmp 49), .some 50)), (none, (.load none (.tmp 50), .some 51)), (none, (.bin .rem (.tmp 51) (.const (.int .u8 128)), .some 52)), (none, (.cvt .u64 (.tmp 52), .some 53)), (none, (.bin .add (.tmp 47) (.tmp 53), .some 54)), (none, (.mov (.tmp 54), .some 6))] []))
  (.reg [(none, (.mov (.tmp 7), .some 44)), (none, (.bin .sub (.tmp 44) (.const (.int .i64 1)), .some 45)), (none, (.mov (.tmp 45), .some 7))] [])))))) (.seq
  (.reg [(none, (.mov (.tmp 6), .some 55)), (none, (.mov (.tmp 5), .some 56)), (none, (.bin .add (.tmp 56) (.const (.int .i64 1)), .some 57)), (none, (.build [.int .i64 0, .int .i64 0] [], .some 58)), (none, (.mov (.tmp 55), .some 2)), (none, (.mov (.tmp 57), .some 3)), (none, (.store 2 (.tmp 4) (.tmp 58), none))] []) .ret))) .skip)))))
  (.reg [(none, (.mov (.tmp 5), .some 12)), (none, (.bin .add (.tmp 12) (.const (.int .i64 1)), .some 13)), (none, (.mov (.tmp 13), .some 5))] [])))))) (.seq
  (.reg [(none, (.mov (.tmp 0), .some 59)), (none, (.len .false (.tmp 59), .some 60)), (none, (.call (.func 156) [.const (.int .i64 1), .tmp 60], .some 61)), (none, (.mov (.const (.int .u64 0)), .some 2)), (none, (.mov (.const (.int .i64 0)), .some 3)), (none, (.store 2 (.tmp 4) (.tmp 61), none))] []) .ret))
theorem b167 : Try.f167.body.bind (compC Try.prog) = some c167 := by kernel_rfl
theorem r167 : compR Try.prog Try.f167 = .some [.tmp 2, .tmp 3, .cell 4 (.some 2)] := by kernel_rfl
theorem n167 : (Try.f167.name == "runtime.NumGoroutine") = false := by kernel_rfl
def c188 : C := .seq
  (.reg [(none, (.new [.int .u32 0, .int .u32 0, .int .u32 0, .int .u32 0, .int .u32 0, .int .u32 0, .int .u32 0, .int .u32 0, .int .u32 0, .int .u32 0, .int .u32 0, .int .u32 0, .int .u32 0, .int .u32 0, .int .u32 0, .int .u32 0], .some 0))] []) (.seq
  (.reg [(none, (.new [.int .u32 0, .int .u32 0, .int .u32 0, .int .u32 0, .int .u32 0, .int .u32 0, .int .u32 0, .int .u32 0, .int .u32 0, .int .u32 0, .int .u32 0, .int .u32 0, .int .u32 0, .int .u32 0, .int .u32 0, .int .u32 0], .some 1))] []) (.seq (.seq
  (.reg [(none, (.mov (.const (.int .i64 0)), .some 4))] []) (.block 0 (.loop (.seq
  (.reg [(none, (.bin .lss (.tmp 4) (.const (.int .i64 16)), .some 5))] []) (.seq (.cond (.tmp 5) .skip (.exit 0)) (.seq (.block 1 (.seq
  (.reg [(none, (.mov (.tmp 4), .some 6)), (none, (.mov (.tmp 6), .some 2))] []) (.seq
  (.reg [(none, (.mov (.tmp 2), .some 7)), (none, (.cvt .u32 (.tmp 7), .some 8)), (none, (.mov (.tmp 8), .some 3))] []) (.seq (.seq
  (.reg [(none, (.mov (.const (.int .i64 0)), .some 9))] []) (.block 2 (.loop (.seq
  (.reg [(none, (.bin .lss (.tmp 9) (.const (.int .i64 4)), .some 10))] []) (.seq (.cond (.tmp 10) .skip (.exit 2)) (.seq (.block 3
  (.reg [(none, (.mov (.tmp 3), .some 11)), (none, (.call (.func 196) [.tmp 11], .some 12)), (none, (.mov (.tmp 12), .some 3))] []))
  (.reg [(none, (.bin .add (.tmp 9) (.const (.int .i64 1)), .some 13)), (none, (.mov (.tmp 13), .some 9))] [])))))))
  (.reg [(none, (.mov (.tmp 2), .some 14)), (none, (.mov (.tmp 3), .some 15)), (none, (.aadr 16 1 (.tmp 1) (.tmp 14), .some 16)), (none, (.store 1 (.tmp 16) (.tmp 15), none))] [])))))
  (.reg [(none, (.bin .add (.tmp 4) (.const (.int .i64 1)), .some 17)), (none, (.mov (.tmp 17), .some 4))] []))))))) (.seq
  (.reg [(none, (.load (.some 16) (.tmp 1), .some 18)), (none, (.store 16 (.tmp 0) (.tmp 18), none))] []) .ret)))
theorem b188 : Try.f188.body.bind (compC Try.prog) = some c188 := by kernel_rfl
theorem r188 : compR Try.prog Try.f188 = .some [.cell 0 (.some 16)] := by kernel_rfl
theorem n188 : (Try.f188.name == "runtime.NumGoroutine") = false := by kernel_rfl
end Go.Proofs.Ytkhnfleejgfhgaa
