/-
  The codes of the seat's functions over abstract values, each shown to be its function's own (by program: wip/tools/codes.py).
-/
import Derived.Test.YtpjkmidjjodplaaA2
import Derived.Test.YtpjkmidjjodplaaProg
import Derived.KernelRfl
namespace Go.Proofs.Ytpjkmidjjodplaa
def c5 : C := .seq
  (.reg [(none, (.mov (.const (.bool .false)), .some 6))] []) (.seq (.seq
  (.reg [(none, (.mov (.tmp 0), .some 14)), (none, (.len .false (.tmp 14), .some 15)), (none, (.bin .gtr (.tmp 15) (.const (.int .i64 500)), .some 16)), (none, (.mov (.tmp 16), .some 17)), (.some (17, .false), (.mov (.tmp 1), .some 18)), (.some (17, .false), (.len .false (.tmp 18), .some 19)), (.some (17, .false), (.bin .gtr (.tmp 19) (.const (.int .i64 500)), .some 20)), (none, (.pick (.tmp 17) (.const (.bool .true)) (.tmp 20), .some 21))] []) (.cond (.tmp 21) (.seq
  (.reg [(none, (.call (.func 27) [], .some 22)), (none, (.mov (.tmp 22), .some 6))] []) .ret) .skip)) (.seq
  (.reg [(none, (.mov (.tmp 0), .some 24)), (none, (.call (.func 28) [.tmp 24], .some 25)), (none, (.mov (.tmp 25), .some 23)), (none, (.ext (.tmp 23) 0, .some 26)), (none, (.ext (.tmp 23) 1, .some 27)), (none, (.mov (.tmp 26), .some 7)), (none, (.mov (.tmp 27), .some 8))] []) (.seq
  (.reg [(none, (.call (.func 29) [.const (.int .i64 2000)], .some 28)), (none, (.mov (.tmp 28), .some 9))] []) (.seq
  (.reg [(none, (.mov (.tmp 9), .some 29)), (none, (.mov (.tmp 1), .some 30)), (none, (.call (.func 30) [.tmp 29, .tmp 30], .some 31))] []) (.seq
  (.reg [(none, (.mov (.tmp 9), .some 32)), (none, (.mov (.tmp 0), .some 33)), (none, (.call (.func 31) [.tmp 32, .tmp 33], .some 34))] []) (.seq
  (.reg [(none, (.mov (.tmp 9), .some 36)), (none, (.call (.func 32) [.tmp 36], .some 37)), (none, (.mov (.tmp 37), .some 35)), (none, (.ext (.tmp 35) 0, .some 38)), (none, (.ext (.tmp 35) 1, .some 39)), (none, (.mov (.tmp 38), .some 10)), (none, (.mov (.tmp 39), .some 11))] []) (.seq
  (.reg [(none, (.mov (.tmp 2), .some 40)), (none, (.mx .true (.tmp 40) (.const (.int .i64 0)), .some 41)), (none, (.mx .false (.tmp 41) (.const (.int .i64 1099511627776)), .some 42)), (none, (.mov (.tmp 42), .some 12))] []) (.seq
  (.reg [(none, (.mov (.tmp 12), .some 43)), (none, (.cvt .u64 (.tmp 43), .some 44)), (none, (.call (.func 33) [.tmp 44], .some 45)), (none, (.len .false (.tmp 45), .some 46)), (none, (.mov (.tmp 12), .some 47)), (none, (.bin .add (.tmp 46) (.tmp 47), .some 48)), (none, (.bin .add (.tmp 48) (.const (.int .i64 4)), .some 49)), (none, (.mov (.tmp 49), .some 13))] []) (.seq
  (.reg [(none, (.mov (.tmp 8), .some 50)), (none, (.bin .eql (.tmp 50) (.const (.int .i64 0)), .some 51)), (none, (.mov (.tmp 51), .some 52)), (.some (52, .true), (.mov (.tmp 11), .some 53)), (.some (52, .true), (.bin .eql (.tmp 53) (.const (.int .i64 0)), .some 54)), (none, (.pick (.tmp 52) (.tmp 54) (.const (.bool .false)), .some 55)), (none, (.mov (.tmp 55), .some 56)), (.some (56, .true), (.mov (.tmp 7), .some 57)), (.some (56, .true), (.mov (.tmp 0), .some 58)), (.some (56, .true), (.call (.func 34) [.tmp 58], .some 59)), (.some (56, .true), (.call (.func 21) [.tmp 57, .tmp 59], .some 60)), (none, (.pick (.tmp 56) (.tmp 60) (.const (.bool .false)), .some 61)), (none, (.mov (.tmp 61), .some 62)), (.some (62, .true), (.mov (.tmp 10), .some 63)), (.some (62, .true), (.bsl 1 [], .some 64)), (.some (62, .true), (.mov (.tmp 1), .some 65)), (.some (62, .true), (.app 1 1 (.tmp 64) (.tmp 65), .some 66)), (.some (62, .true), (.mov (.tmp 7), .some 67)), (.some (62, .true), (.app 1 1 (.tmp 66) (.tmp 67), .some 68)), (.some (62, .true), (.call (.func 21) [.tmp 63, .tmp 68], .some 69)), (none, (.pick (.tmp 62) (.tmp 69) (.const (.bool .false)), .some 70)), (none, (.mov (.tmp 70), .some 71)), (.some (71, .true), (.mov (.tmp 0), .some 72)), (.some (71, .true), (.len .false (.tmp 72), .some 73)), (.some (71, .true), (.call (.func 35) [.tmp 73], .some 74)), (.some (71, .true), (.mov (.tmp 7), .some 75)), (.some (71, .true), (.len .false (.tmp 75), .some 76)), (.some (71, .true), (.bin .eql (.tmp 74) (.tmp 76), .some 77)), (none, (.pick (.tmp 71) (.tmp 77) (.const (.bool .false)), .some 78)), (none, (.mov (.tmp 78), .some 79)), (.some (79, .true), (.mov (.tmp 12), .some 80)), (.some (79, .true), (.call (.func 35) [.tmp 80], .some 81)), (.some (79, .true), (.mov (.tmp 13), .some 82)), (.some (79, .true), (.bin .eql (.tmp 81) (.tmp 82), .some 83)), (none, (.pick (.tmp 79) (.tmp 83) (.const (.bool .false)), .some 84)), (none, (.mov (.tmp 84), .some 85)), (.some (85, .true), (.mov (.tmp 12), .some 86)), (.some (85, .true), (.call (.func 36) [.tmp 86], .some 87)), (.some (85, .true), (.mov (.tmp 13), .some 88)), (.some (85, .true), (.bin .eql (.tmp 87) (.tmp 88), .some 89)), (none, (.pick (.tmp 85) (.tmp 89) (.const (.bool .false)), .some 90)), (none, (.mov (.tmp 90), .some 91)), (.some (91, .true), (.call (.func 27) [], .some 92)), (none, (.pick (.tmp 91) (.tmp 92) (.const (.bool .false)), .some 93)), (none, (.mov (.tmp 93), .some 6))] []) .ret)))))))))
theorem b5 : Try.f5.body.bind (compC Try.prog) = some c5 := by kernel_rfl
theorem r5 : compR Try.prog Try.f5 = .some [.tmp 6] := by kernel_rfl
theorem n5 : (Try.f5.name == "runtime.NumGoroutine") = false := by kernel_rfl
def c6 : C := .seq
  (.reg [(none, (.mov (.const (.bool .false)), .some 4))] []) (.seq (.seq
  (.reg [(none, (.mov (.tmp 0), .some 13)), (none, (.call (.func 17) [.tmp 13], .some 14)), (none, (.mov (.tmp 14), .some 15)), (.some (15, .false), (.mov (.tmp 1), .some 16)), (.some (15, .false), (.call (.func 17) [.tmp 16], .some 17)), (none, (.pick (.tmp 15) (.const (.bool .true)) (.tmp 17), .some 18))] []) (.cond (.tmp 18) (.seq
  (.reg [(none, (.call (.func 37) [], .some 19)), (none, (.mov (.tmp 19), .some 4))] []) .ret) .skip)) (.seq
  (.reg [(none, (.mov (.const (.bool .true)), .some 5)), (none, (.mov (.const (.int .i64 0)), .some 6))] []) (.seq (.seq
  (.reg [(none, (.mov (.const (.int .i64 0)), .some 7))] []) (.block 0 (.loop (.seq (.seq
  (.reg [(none, (.mov (.tmp 7), .some 20)), (none, (.mov (.tmp 0), .some 21)), (none, (.len .false (.tmp 21), .some 22)), (none, (.bin .lss (.tmp 20) (.tmp 22), .some 23))] []) (.cond (.tmp 23) .skip (.exit 0))) (.seq (.block 1 (.seq (.seq
  (.reg [(none, (.mov (.tmp 0), .some 26)), (none, (.mov (.tmp 7), .some 27)), (none, (.iadr 3 (.tmp 26) (.tmp 27), .some 28)), (none, (.load (.some 3) (.tmp 28), .some 29)), (none, (.call (.func 38) [.tmp 29], .some 30)), (none, (.mov (.tmp 0), .some 31)), (none, (.mov (.tmp 7), .some 32)), (none, (.iadr 3 (.tmp 31) (.tmp 32), .some 33)), (none, (.load (.some 3) (.tmp 33), .some 34)), (none, (.call (.func 39) [.tmp 34], .some 35)), (none, (.eqb .true (.tmp 30) (.tmp 35), .some 36)), (none, (.mov (.tmp 36), .some 37)), (.some (37, .false), (.mov (.tmp 0), .some 38)), (.some (37, .false), (.mov (.tmp 7), .some 39)), (.some (37, .false), (.iadr 3 (.tmp 38) (.tmp 39), .some 40)), (.some (37, .false), (.load (.some 3) (.tmp 40), .some 41)), (.some (37, .false), (.call (.func 40) [.tmp 41], .some 42)), (.some (37, .false), (.mov (.tmp 0), .some 43)), (.some (37, .false), (.mov (.tmp 7), .some 44)), (.some (37, .false), (.iadr 3 (.tmp 43) (.tmp 44), .some 45)), (.some (37, .false), (.load (.some 3) (.tmp 45), .some 46)), (.some (37, .false), (.call (.func 22) [.tmp 46], .some 47)), (.some (37, .false), (.bin .neq (.tmp 42) (.tmp 47), .some 48)), (none, (.pick (.tmp 37) (.const (.bool .true)) (.tmp 48), .some 49))] [(3, 8), (4, 8), (15, 20), (16, 20)]) (.cond (.tmp 49) (.seq
  (.reg [(none, (.mov (.const (.bool .false)), .some 4))] []) .ret) .skip)) (.seq
  (.reg [(none, (.call (.func 29) [.const (.int .i64 400)], .some 50)), (none, (.mov (.tmp 50), .some 8))] []) (.seq
  (.reg [(none, (.mov (.tmp 8), .some 51)), (none, (.mov (.tmp 0), .some 52)), (none, (.mov (.tmp 7), .some 53)), (none, (.iadr 3 (.tmp 52) (.tmp 53), .some 54)), (none, (.load (.some 3) (.tmp 54), .some 55)), (none, (.call (.func 41) [.tmp 51, .tmp 55], .some 56))] []) (.seq
  (.reg [(none, (.mov (.tmp 8), .some 58)), (none, (.call (.func 32) [.tmp 58], .some 59)), (none, (.mov (.tmp 59), .some 57)), (none, (.ext (.tmp 57) 0, .some 60)), (none, (.ext (.tmp 57) 1, .some 61)), (none, (.mov (.tmp 60), .some 9)), (none, (.mov (.tmp 61), .some 10))] []) (.seq (.seq
  (.reg [(none, (.mov (.tmp 0), .some 62)), (none, (.mov (.tmp 7), .some 63)), (none, (.iadr 3 (.tmp 62) (.tmp 63), .some 64)), (none, (.load (.some 3) (.tmp 64), .some 65)), (none, (.call (.func 39) [.tmp 65], .some 66))] []) (.cond (.tmp 66) (.seq
  (.reg [(none, (.mov (.tmp 10), .some 67)), (none, (.bin .neq (.tmp 67) (.const (.int .i64 0)), .some 68)), (none, (.mov (.tmp 68), .some 69)), (.some (69, .false), (.mov (.tmp 9), .some 70)), (.some (69, .false), (.mov (.tmp 0), .some 71)), (.some (69, .false), (.mov (.tmp 7), .some 72)), (.some (69, .false), (.mov (.tmp 7), .some 73)), (.some (69, .false), (.bin .add (.tmp 73) (.const (.int .i64 1)), .some 74)), (.some (69, .false), (.slice 3 (.tmp 71) (.some (.tmp 72)) (.some (.tmp 74)) none, .some 75)), (.some (69, .false), (.call (.func 42) [.tmp 75], .some 76)), (.some (69, .false), (.call (.func 21) [.tmp 70, .tmp 76], .some 77)), (.some (69, .false), (.un .not (.tmp 77), .some 78)), (none, (.pick (.tmp 69) (.const (.bool .true)) (.tmp 78), .some 79))] []) (.cond (.tmp 79) (.seq
  (.reg [(none, (.mov (.const (.bool .false)), .some 4))] []) .ret) .skip)) (.seq
  (.reg [(none, (.mov (.tmp 10), .some 80)), (none, (.bin .neq (.tmp 80) (.const (.int .i64 3)), .some 81))] []) (.cond (.tmp 81) (.seq
  (.reg [(none, (.mov (.const (.bool .false)), .some 4))] []) .ret) .skip)))) (.seq
  (.reg [(none, (.mov (.tmp 5), .some 82)), (none, (.mov (.tmp 82), .some 83)), (.some (83, .true), (.mov (.tmp 0), .some 84)), (.some (83, .true), (.mov (.tmp 7), .some 85)), (.some (83, .true), (.iadr 3 (.tmp 84) (.tmp 85), .some 86)), (.some (83, .true), (.load (.some 3) (.tmp 86), .some 87)), (.some (83, .true), (.call (.func 39) [.tmp 87], .some 88)), (none, (.pick (.tmp 83) (.tmp 88) (.const (.bool .false)), .some 89)), (none, (.mov (.tmp 89), .some 5))] [])
  (.reg [(none, (.mov (.tmp 6), .some 90)), (none, (.mov (.tmp 0), .some 91)), (none, (.mov (.tmp 7), .some 92)), (none, (.iadr 3 (.tmp 91) (.tmp 92), .some 93)), (none, (.load (.some 3) (.tmp 93), .some 94)), (none, (.call (.func 22) [.tmp 94], .some 95)), (none, (.bin .add (.tmp 90) (.tmp 95), .some 96)), (none, (.mov (.tmp 96), .some 6))] []))))))))
  (.reg [(none, (.mov (.tmp 7), .some 24)), (none, (.bin .add (.tmp 24) (.const (.int .i64 1)), .some 25)), (none, (.mov (.tmp 25), .some 7))] [])))))) (.seq
  (.reg [(none, (.mov (.tmp 0), .some 98)), (none, (.call (.func 43) [.tmp 98], .some 99)), (none, (.mov (.tmp 99), .some 97)), (none, (.ext (.tmp 97) 0, .some 100)), (none, (.ext (.tmp 97) 1, .some 101)), (none, (.mov (.tmp 100), .some 11)), (none, (.mov (.tmp 101), .some 12))] []) (.seq (.seq
  (.reg [(none, (.mov (.tmp 0), .some 102)), (none, (.call (.func 44) [.tmp 102], .some 103)), (none, (.mov (.tmp 6), .some 104)), (none, (.bin .neq (.tmp 103) (.tmp 104), .some 105)), (none, (.mov (.tmp 105), .some 106)), (.some (106, .false), (.mov (.tmp 0), .some 107)), (.some (106, .false), (.mov (.tmp 1), .some 108)), (.some (106, .false), (.call (.func 45) [.tmp 107, .tmp 108], .some 109)), (.some (106, .false), (.mov (.tmp 0), .some 110)), (.some (106, .false), (.mov (.tmp 1), .some 111)), (.some (106, .false), (.call (.func 46) [.tmp 110, .tmp 111], .some 112)), (.some (106, .false), (.eqb .true (.tmp 109) (.tmp 112), .some 113)), (none, (.pick (.tmp 106) (.const (.bool .true)) (.tmp 113), .some 114)), (none, (.mov (.tmp 114), .some 115)), (.some (115, .false), (.mov (.tmp 0), .some 116)), (.some (115, .false), (.mov (.tmp 0), .some 117)), (.some (115, .false), (.call (.func 45) [.tmp 116, .tmp 117], .some 118)), (.some (115, .false), (.un .not (.tmp 118), .some 119)), (none, (.pick (.tmp 115) (.const (.bool .true)) (.tmp 119), .some 120))] []) (.cond (.tmp 120) (.seq
  (.reg [(none, (.mov (.const (.bool .false)), .some 4))] []) .ret) .skip)) (.seq (.seq
  (.reg [(none, (.mov (.tmp 5), .some 121)), (none, (.un .not (.tmp 121), .some 122))] []) (.cond (.tmp 122) (.seq
  (.reg [(none, (.mov (.tmp 12), .some 123)), (none, (.bin .eql (.tmp 123) (.const (.int .i64 3)), .some 124)), (none, (.mov (.tmp 124), .some 125)), (.some (125, .true), (.mov (.tmp 11), .some 126)), (.some (125, .true), (.len .false (.tmp 126), .some 127)), (.some (125, .true), (.bin .eql (.tmp 127) (.const (.int .i64 0)), .some 128)), (none, (.pick (.tmp 125) (.tmp 128) (.const (.bool .false)), .some 129)), (none, (.mov (.tmp 129), .some 130)), (.some (130, .true), (.call (.func 37) [], .some 131)), (none, (.pick (.tmp 130) (.tmp 131) (.const (.bool .false)), .some 132)), (none, (.mov (.tmp 132), .some 4))] []) .ret) .skip)) (.seq
  (.reg [(none, (.mov (.tmp 12), .some 133)), (none, (.bin .eql (.tmp 133) (.const (.int .i64 0)), .some 134)), (none, (.mov (.tmp 134), .some 135)), (.some (135, .true), (.mov (.tmp 11), .some 136)), (.some (135, .true), (.mov (.tmp 0), .some 137)), (.some (135, .true), (.call (.func 42) [.tmp 137], .some 138)), (.some (135, .true), (.call (.func 21) [.tmp 136, .tmp 138], .some 139)), (none, (.pick (.tmp 135) (.tmp 139) (.const (.bool .false)), .some 140)), (none, (.mov (.tmp 140), .some 141)), (.some (141, .true), (.call (.func 37) [], .some 142)), (none, (.pick (.tmp 141) (.tmp 142) (.const (.bool .false)), .some 143)), (none, (.mov (.tmp 143), .some 4))] []) .ret)))))))
theorem b6 : Try.f6.body.bind (compC Try.prog) = some c6 := by kernel_rfl
theorem r6 : compR Try.prog Try.f6 = .some [.tmp 4] := by kernel_rfl
theorem n6 : (Try.f6.name == "runtime.NumGoroutine") = false := by kernel_rfl
def c20 : C := .seq
  (.reg [(none, (.mov (.const (.slice none 0 0)), .some 4)), (none, (.new [.int .i64 0, .int .i64 0], .some 5))] []) (.seq
  (.reg [(none, (.mov (.const (.slice none 0 0)), .some 6))] []) (.seq (.seq
  (.reg [(none, (.mov (.const (.int .i64 0)), .some 7))] []) (.block 0 (.loop (.seq (.seq
  (.reg [(none, (.mov (.tmp 7), .some 8)), (none, (.mov (.tmp 0), .some 9)), (none, (.len .false (.tmp 9), .some 10)), (none, (.bin .lss (.tmp 8) (.tmp 10), .some 11))] []) (.cond (.tmp 11) .skip (.exit 0))) (.seq (.block 1 (.seq (.seq
  (.reg [(none, (.mov (.tmp 0), .some 14)), (none, (.mov (.tmp 7), .some 15)), (none, (.iadr 3 (.tmp 14) (.tmp 15), .some 16)), (none, (.load (.some 3) (.tmp 16), .some 17)), (none, (.call (.func 39) [.tmp 17], .some 18)), (none, (.un .not (.tmp 18), .some 19))] []) (.cond (.tmp 19) (.seq
  (.reg [(none, (.mov (.tmp 7), .some 20)), (none, (.call (.func 73) [.const (.int .i64 3), .tmp 20], .some 21)), (none, (.mov (.const (.slice none 0 0)), .some 4)), (none, (.store 2 (.tmp 5) (.tmp 21), none))] []) .ret) .skip)) (.seq (.seq
  (.reg [(none, (.mov (.tmp 6), .some 22)), (none, (.len .false (.tmp 22), .some 23)), (none, (.mov (.tmp 0), .some 24)), (none, (.mov (.tmp 7), .some 25)), (none, (.iadr 3 (.tmp 24) (.tmp 25), .some 26)), (none, (.load (.some 3) (.tmp 26), .some 27)), (none, (.call (.func 22) [.tmp 27], .some 28)), (none, (.bin .add (.tmp 23) (.tmp 28), .some 29)), (none, (.mov (.tmp 1), .some 30)), (none, (.bin .gtr (.tmp 29) (.tmp 30), .some 31))] []) (.cond (.tmp 31) (.seq
  (.reg [(none, (.mov (.tmp 7), .some 32)), (none, (.call (.func 73) [.const (.int .i64 11), .tmp 32], .some 33)), (none, (.mov (.const (.slice none 0 0)), .some 4)), (none, (.store 2 (.tmp 5) (.tmp 33), none))] []) .ret) .skip)) (.seq (.seq
  (.reg [(none, (.mov (.tmp 0), .some 34)), (none, (.mov (.tmp 7), .some 35)), (none, (.iadr 3 (.tmp 34) (.tmp 35), .some 36)), (none, (.fadr 1 (.tmp 36), .some 37)), (none, (.load none (.tmp 37), .some 38)), (none, (.mov (.tmp 6), .some 39)), (none, (.len .false (.tmp 39), .some 40)), (none, (.bin .gtr (.tmp 38) (.tmp 40), .some 41))] []) (.cond (.tmp 41) (.seq
  (.reg [(none, (.mov (.tmp 7), .some 42)), (none, (.call (.func 73) [.const (.int .i64 10), .tmp 42], .some 43)), (none, (.mov (.const (.slice none 0 0)), .some 4)), (none, (.store 2 (.tmp 5) (.tmp 43), none))] []) .ret) .skip))
  (.reg [(none, (.mov (.tmp 6), .some 44)), (none, (.mov (.tmp 0), .some 45)), (none, (.mov (.tmp 7), .some 46)), (none, (.iadr 3 (.tmp 45) (.tmp 46), .some 47)), (none, (.load (.some 3) (.tmp 47), .some 48)), (none, (.call (.func 74) [.tmp 44, .tmp 48], .some 49)), (none, (.mov (.tmp 49), .some 6))] [])))))
  (.reg [(none, (.mov (.tmp 7), .some 12)), (none, (.bin .add (.tmp 12) (.const (.int .i64 1)), .some 13)), (none, (.mov (.tmp 13), .some 7))] [])))))) (.seq
  (.reg [(none, (.mov (.tmp 6), .some 50)), (none, (.build [.int .i64 0, .int .i64 0] [], .some 51)), (none, (.mov (.tmp 50), .some 4)), (none, (.store 2 (.tmp 5) (.tmp 51), none))] []) .ret)))
theorem b20 : Try.f20.body.bind (compC Try.prog) = some c20 := by kernel_rfl
theorem r20 : compR Try.prog Try.f20 = .some [.tmp 4, .cell 5 (.some 2)] := by kernel_rfl
theorem n20 : (Try.f20.name == "runtime.NumGoroutine") = false := by kernel_rfl
def c24 : C := .seq
  (.reg [(none, (.mov (.const (.slice none 0 0)), .some 2)), (none, (.mov (.const (.bool .false)), .some 3))] []) (.seq (.seq
  (.reg [(none, (.mov (.tmp 0), .some 7)), (none, (.call (.func 75) [.tmp 7], .some 8)), (none, (.un .not (.tmp 8), .some 9))] []) (.cond (.tmp 9) (.seq
  (.reg [(none, (.mov (.const (.slice none 0 0)), .some 2)), (none, (.mov (.const (.bool .false)), .some 3))] []) .ret) .skip)) (.seq
  (.reg [(none, (.mov (.const (.slice none 0 0)), .some 4))] []) (.seq (.seq
  (.reg [(none, (.mov (.tmp 0), .some 10)), (none, (.len .false (.tmp 10), .some 11)), (none, (.mov (.const (.int .i64 0)), .some 12))] []) (.block 0 (.loop (.seq
  (.reg [(none, (.bin .lss (.tmp 12) (.tmp 11), .some 13))] []) (.seq (.cond (.tmp 13) .skip (.exit 0)) (.seq (.block 1 (.seq
  (.reg [(none, (.iadr 3 (.tmp 10) (.tmp 12), .some 14)), (none, (.load (.some 3) (.tmp 14), .some 15)), (none, (.new [.slice none 0 0, .int .i64 0, .int .i64 0], .some 6)), (none, (.store 3 (.tmp 6) (.tmp 15), none))] []) (.seq (.seq
  (.reg [(none, (.fadr 0 (.tmp 6), .some 16)), (none, (.load none (.tmp 16), .some 17)), (none, (.len .false (.tmp 17), .some 18)), (none, (.mov (.const (.int .i64 0)), .some 19))] []) (.block 2 (.loop (.seq
  (.reg [(none, (.bin .lss (.tmp 19) (.tmp 18), .some 20))] []) (.seq (.cond (.tmp 20) .skip (.exit 2)) (.seq (.block 3
  (.reg [(none, (.mov (.tmp 4), .some 21)), (none, (.bsl 1 [.const (.int .i64 0)], .some 22)), (none, (.app 1 8 (.tmp 21) (.tmp 22), .some 23)), (none, (.mov (.tmp 23), .some 4))] []))
  (.reg [(none, (.bin .add (.tmp 19) (.const (.int .i64 1)), .some 24)), (none, (.mov (.tmp 24), .some 19))] []))))))) (.seq
  (.reg [(none, (.fadr 2 (.tmp 6), .some 25)), (none, (.load none (.tmp 25), .some 26)), (none, (.mov (.const (.int .i64 0)), .some 27))] []) (.block 4 (.loop (.seq
  (.reg [(none, (.bin .lss (.tmp 27) (.tmp 26), .some 28))] []) (.seq (.cond (.tmp 28) .skip (.exit 4)) (.seq (.block 5
  (.reg [(none, (.mov (.tmp 4), .some 29)), (none, (.mov (.tmp 4), .some 30)), (none, (.mov (.tmp 4), .some 31)), (none, (.len .false (.tmp 31), .some 32)), (none, (.fadr 1 (.tmp 6), .some 33)), (none, (.load none (.tmp 33), .some 34)), (none, (.bin .sub (.tmp 32) (.tmp 34), .some 35)), (none, (.iadr 1 (.tmp 30) (.tmp 35), .some 36)), (none, (.load none (.tmp 36), .some 37)), (none, (.bin .add (.tmp 37) (.const (.int .i64 1)), .some 38)), (none, (.bsl 1 [.tmp 38], .some 39)), (none, (.app 1 8 (.tmp 29) (.tmp 39), .some 40)), (none, (.mov (.tmp 40), .some 4))] []))
  (.reg [(none, (.bin .add (.tmp 27) (.const (.int .i64 1)), .some 41)), (none, (.mov (.tmp 41), .some 27))] []))))))))))
  (.reg [(none, (.bin .add (.tmp 12) (.const (.int .i64 1)), .some 42)), (none, (.mov (.tmp 42), .some 12))] []))))))) (.seq
  (.reg [(none, (.mov (.tmp 4), .some 43)), (none, (.mov (.tmp 43), .some 2)), (none, (.mov (.const (.bool .true)), .some 3))] []) .ret))))
theorem b24 : Try.f24.body.bind (compC Try.prog) = some c24 := by kernel_rfl
theorem r24 : compR Try.prog Try.f24 = .some [.tmp 2, .tmp 3] := by kernel_rfl
theorem n24 : (Try.f24.name == "runtime.NumGoroutine") = false := by kernel_rfl
def c28 : C := .seq
  (.reg [(none, (.mov (.const (.slice none 0 0)), .some 2)), (none, (.mov (.const (.int .i64 0)), .some 3))] []) (.seq
  (.reg [(none, (.mov (.tmp 0), .some 5)), (none, (.len .false (.tmp 5), .some 6)), (none, (.call (.func 35) [.tmp 6], .some 7)), (none, (.call (.func 29) [.tmp 7], .some 8)), (none, (.mov (.tmp 8), .some 4))] []) (.seq
  (.reg [(none, (.mov (.tmp 4), .some 9)), (none, (.mov (.tmp 0), .some 10)), (none, (.call (.func 31) [.tmp 9, .tmp 10], .some 11))] []) (.seq
  (.reg [(none, (.mov (.tmp 4), .some 12)), (none, (.call (.func 32) [.tmp 12], .some 13)), (none, (.ext (.tmp 13) 0, .some 14)), (none, (.ext (.tmp 13) 1, .some 15)), (none, (.mov (.tmp 14), .some 2)), (none, (.mov (.tmp 15), .some 3))] []) .ret)))
theorem b28 : Try.f28.body.bind (compC Try.prog) = some c28 := by kernel_rfl
theorem r28 : compR Try.prog Try.f28 = .some [.tmp 2, .tmp 3] := by kernel_rfl
theorem n28 : (Try.f28.name == "runtime.NumGoroutine") = false := by kernel_rfl
def c30 : C := .block 0 (.seq
  (.reg [(none, (.mov (.tmp 0), .some 14)), (none, (.call (.func 76) [.tmp 14], .some 15)), (none, (.bin .neq (.tmp 15) (.const (.int .i64 0)), .some 16)), (none, (.mov (.tmp 16), .some 13))] []) (.cond (.tmp 13) .skip (.seq
  (.reg [(none, (.mov (.tmp 1), .some 18)), (none, (.len .false (.tmp 18), .some 19)), (none, (.mov (.tmp 0), .some 20)), (none, (.call (.func 77) [.tmp 20], .some 21)), (none, (.bin .gtr (.tmp 19) (.tmp 21), .some 22)), (none, (.mov (.tmp 22), .some 17))] []) (.cond (.tmp 17)
  (.reg [(none, (.mov (.tmp 0), .some 23)), (none, (.call (.func 78) [.tmp 23, .const (.int .i64 2)], .some 24))] [])
  (.reg [(none, (.mov (.tmp 0), .some 4)), (none, (.mov (.tmp 0), .some 5)), (none, (.nilc (.tmp 5), .some 6)), (none, (.fadr 1 (.tmp 6), .some 7)), (none, (.load none (.tmp 7), .some 8)), (none, (.mov (.tmp 1), .some 9)), (none, (.app 1 1 (.tmp 8) (.tmp 9), .some 10)), (none, (.nilc (.tmp 4), .some 11)), (none, (.fadr 1 (.tmp 11), .some 12)), (none, (.store 1 (.tmp 12) (.tmp 10), none))] [])))))
theorem b30 : Try.f30.body.bind (compC Try.prog) = some c30 := by kernel_rfl
theorem r30 : compR Try.prog Try.f30 = .some [] := by kernel_rfl
theorem n30 : (Try.f30.name == "runtime.NumGoroutine") = false := by kernel_rfl
def c35 : C := .seq
  (.reg [(none, (.mov (.const (.int .i64 0)), .some 2))] []) (.seq
  (.reg [(none, (.mov (.tmp 0), .some 3)), (none, (.call (.func 85) [.tmp 3], .some 4)), (none, (.bin .add (.tmp 4) (.const (.int .i64 4)), .some 5)), (none, (.mov (.tmp 5), .some 2))] []) .ret)
theorem b35 : Try.f35.body.bind (compC Try.prog) = some c35 := by kernel_rfl
theorem r35 : compR Try.prog Try.f35 = .some [.tmp 2] := by kernel_rfl
theorem n35 : (Try.f35.name == "runtime.NumGoroutine") = false := by kernel_rfl
def c37 : C := .seq
  (.reg [(none, (.mov (.const (.bool .false)), .some 0))] []) (.seq
  (.reg [(none, (.bsl 1 [.const (.int .u8 7), .const (.int .u8 8)], .some 4)), (none, (.build [.slice none 0 0, .int .i64 0, .int .i64 0] [(0, (1, .tmp 4))], .some 5)), (none, (.build [.slice none 0 0, .int .i64 0, .int .i64 0] [(1, (1, .const (.int .i64 1))), (2, (1, .const (.int .i64 4)))], .some 6)), (none, (.bsl 3 [.tmp 5, .tmp 6], .some 7)), (none, (.call (.func 43) [.tmp 7], .some 8)), (none, (.mov (.tmp 8), .some 3)), (none, (.ext (.tmp 3) 0, .some 9)), (none, (.ext (.tmp 3) 1, .some 10)), (none, (.mov (.tmp 9), .some 1)), (none, (.mov (.tmp 10), .some 2))] []) (.seq
  (.reg [(none, (.mov (.tmp 2), .some 11)), (none, (.bin .eql (.tmp 11) (.const (.int .i64 0)), .some 12)), (none, (.mov (.tmp 12), .some 13)), (.some (13, .true), (.mov (.tmp 1), .some 14)), (.some (13, .true), (.bsl 1 [.const (.int .u8 2), .const (.int .u8 7), .const (.int .u8 8), .const (.int .u8 1), .const (.int .u8 0)], .some 15)), (.some (13, .true), (.call (.func 21) [.tmp 14, .tmp 15], .some 16)), (none, (.pick (.tmp 13) (.tmp 16) (.const (.bool .false)), .some 17)), (none, (.mov (.tmp 17), .some 0))] []) .ret))
theorem b37 : Try.f37.body.bind (compC Try.prog) = some c37 := by kernel_rfl
theorem r37 : compR Try.prog Try.f37 = .some [.tmp 0] := by kernel_rfl
theorem n37 : (Try.f37.name == "runtime.NumGoroutine") = false := by kernel_rfl
def c38 : C := .seq
  (.reg [(none, (.box (.tmp 0), .some 1)), (none, (.mov (.const (.bool .false)), .some 2))] []) (.seq
  (.reg [(none, (.fadr 0 (.tmp 1), .some 4)), (none, (.load none (.tmp 4), .some 5)), (none, (.len .false (.tmp 5), .some 6)), (none, (.mov (.tmp 6), .some 3))] []) (.seq (.block 0 (.seq (.block 3 (.block 2 (.seq (.block 1 (.seq (.seq (.seq
  (.reg [(none, (.fadr 1 (.tmp 1), .some 8)), (none, (.load none (.tmp 8), .some 9)), (none, (.bin .eql (.tmp 9) (.const (.int .i64 0)), .some 10)), (none, (.mov (.tmp 10), .some 7))] []) (.cond (.tmp 7) (.exit 1) .skip)) (.seq (.seq
  (.reg [(none, (.mov (.tmp 3), .some 12)), (none, (.bin .gtr (.tmp 12) (.const (.int .i64 0)), .some 13)), (none, (.mov (.tmp 13), .some 11))] []) (.cond (.tmp 11) (.exit 2) .skip)) (.seq
  (.reg [(none, (.fadr 1 (.tmp 1), .some 15)), (none, (.load none (.tmp 15), .some 16)), (none, (.bin .lss (.tmp 16) (.const (.int .i64 0)), .some 17)), (none, (.mov (.tmp 17), .some 18)), (.some (18, .false), (.fadr 1 (.tmp 1), .some 19)), (.some (18, .false), (.load none (.tmp 19), .some 20)), (.some (18, .false), (.bin .gtr (.tmp 20) (.const (.int .i64 65536)), .some 21)), (none, (.pick (.tmp 18) (.const (.bool .true)) (.tmp 21), .some 22)), (none, (.mov (.tmp 22), .some 14))] []) (.cond (.tmp 14) (.exit 3) .skip)))) (.exit 0))) (.seq (.seq
  (.reg [(none, (.fadr 2 (.tmp 1), .some 23)), (none, (.load none (.tmp 23), .some 24)), (none, (.bin .eql (.tmp 24) (.const (.int .i64 0)), .some 25)), (none, (.mov (.tmp 25), .some 26)), (.some (26, .true), (.mov (.tmp 3), .some 27)), (.some (26, .true), (.bin .geq (.tmp 27) (.const (.int .i64 1)), .some 28)), (none, (.pick (.tmp 26) (.tmp 28) (.const (.bool .false)), .some 29)), (none, (.mov (.tmp 29), .some 30)), (.some (30, .true), (.mov (.tmp 3), .some 31)), (.some (30, .true), (.bin .leq (.tmp 31) (.const (.int .i64 1048576)), .some 32)), (none, (.pick (.tmp 30) (.tmp 32) (.const (.bool .false)), .some 33)), (none, (.mov (.tmp 33), .some 2))] []) .ret) (.exit 0))))) (.seq (.seq
  (.reg [(none, (.mov (.const (.bool .false)), .some 2))] []) .ret) (.exit 0)))) (.seq
  (.reg [(none, (.fadr 2 (.tmp 1), .some 34)), (none, (.load none (.tmp 34), .some 35)), (none, (.bin .geq (.tmp 35) (.const (.int .i64 4)), .some 36)), (none, (.mov (.tmp 36), .some 37)), (.some (37, .true), (.fadr 2 (.tmp 1), .some 38)), (.some (37, .true), (.load none (.tmp 38), .some 39)), (.some (37, .true), (.bin .leq (.tmp 39) (.const (.int .i64 1048576)), .some 40)), (none, (.pick (.tmp 37) (.tmp 40) (.const (.bool .false)), .some 41)), (none, (.mov (.tmp 41), .some 2))] []) .ret)))
theorem b38 : Try.f38.body.bind (compC Try.prog) = some c38 := by kernel_rfl
theorem r38 : compR Try.prog Try.f38 = .some [.tmp 2] := by kernel_rfl
theorem n38 : (Try.f38.name == "runtime.NumGoroutine") = false := by kernel_rfl
def c40 : C := .seq
  (.reg [(none, (.box (.tmp 0), .some 1)), (none, (.mov (.const (.int .i64 0)), .some 2))] []) (.seq (.block 0 (.seq
  (.reg [(none, (.load (.some 3) (.tmp 1), .some 4)), (none, (.call (.func 38) [.tmp 4], .some 5)), (none, (.un .not (.tmp 5), .some 6)), (none, (.mov (.tmp 6), .some 3))] []) (.cond (.tmp 3) (.seq
  (.reg [(none, (.mov (.const (.int .i64 0)), .some 2))] []) .ret) (.seq
  (.reg [(none, (.fadr 1 (.tmp 1), .some 8)), (none, (.load none (.tmp 8), .some 9)), (none, (.bin .eql (.tmp 9) (.const (.int .i64 0)), .some 10)), (none, (.mov (.tmp 10), .some 7))] []) (.cond (.tmp 7) (.seq
  (.reg [(none, (.fadr 0 (.tmp 1), .some 11)), (none, (.load none (.tmp 11), .some 12)), (none, (.len .false (.tmp 12), .some 13)), (none, (.mov (.tmp 13), .some 2))] []) .ret) .skip))))) (.seq
  (.reg [(none, (.fadr 2 (.tmp 1), .some 14)), (none, (.load none (.tmp 14), .some 15)), (none, (.mov (.tmp 15), .some 2))] []) .ret))
theorem b40 : Try.f40.body.bind (compC Try.prog) = some c40 := by kernel_rfl
theorem r40 : compR Try.prog Try.f40 = .some [.tmp 2] := by kernel_rfl
theorem n40 : (Try.f40.name == "runtime.NumGoroutine") = false := by kernel_rfl
def c47 : C := .seq
  (.reg [(none, (.mov (.const (.slice none 0 0)), .some 4)), (none, (.new [.int .i64 0, .int .i64 0], .some 5))] []) (.scope (.seq
  (.reg [(none, (.mov (.tmp 0), .some 13)), (none, (.call (.func 53) [.tmp 13], .some 14)), (none, (.mov (.tmp 14), .some 6))] []) (.seq
  (.reg [(none, (.mov (.const (.slice none 0 0)), .some 7))] []) (.seq
  (.reg [(none, (.mov (.const (.bool .false)), .some 8))] []) (.seq
  (.reg [(none, (.mov (.const (.int .i64 0)), .some 9)), (none, (.mov (.const (.int .i64 0)), .some 10)), (none, (.mov (.const (.int .i64 0)), .some 11))] []) (.seq (.label 1) (.seq (.seq
  (.reg [(none, (.mov (.tmp 6), .some 15)), (none, (.call (.func 91) [.tmp 15], .some 16)), (none, (.bin .eql (.tmp 16) (.const (.int .i64 0)), .some 17)), (none, (.mov (.tmp 17), .some 18)), (.some (18, .false), (.mov (.tmp 6), .some 19)), (.some (18, .false), (.call (.func 60) [.tmp 19], .some 20)), (.some (18, .false), (.un .not (.tmp 20), .some 21)), (none, (.pick (.tmp 18) (.const (.bool .true)) (.tmp 21), .some 22))] []) (.cond (.tmp 22) (.goto 0) .skip)) (.seq
  (.reg [(none, (.mov (.tmp 6), .some 23)), (none, (.call (.func 57) [.tmp 23], .some 24)), (none, (.mov (.tmp 24), .some 9))] []) (.seq
  (.reg [(none, (.mov (.tmp 6), .some 26)), (none, (.call (.func 58) [.tmp 26], .some 27)), (none, (.mov (.tmp 27), .some 25)), (none, (.ext (.tmp 25) 0, .some 28)), (none, (.ext (.tmp 25) 1, .some 29)), (none, (.mov (.tmp 28), .some 8)), (none, (.mov (.tmp 29), .some 10))] []) (.seq (.seq
  (.reg [(none, (.mov (.tmp 10), .some 30)), (none, (.mov (.tmp 1), .some 31)), (none, (.mov (.tmp 7), .some 32)), (none, (.len .false (.tmp 32), .some 33)), (none, (.bin .sub (.tmp 31) (.tmp 33), .some 34)), (none, (.bin .gtr (.tmp 30) (.tmp 34), .some 35))] []) (.cond (.tmp 35) (.seq
  (.reg [(none, (.mov (.tmp 6), .some 36)), (none, (.mov (.tmp 9), .some 37)), (none, (.call (.func 92) [.tmp 36, .const (.int .i64 11), .tmp 37], .some 38))] []) (.goto 0)) .skip)) (.seq (.seq
  (.reg [(none, (.mov (.tmp 8), .some 39)), (none, (.un .not (.tmp 39), .some 40))] []) (.cond (.tmp 40) (.seq
  (.reg [(none, (.mov (.tmp 7), .some 41)), (none, (.mov (.tmp 6), .some 42)), (none, (.mov (.tmp 10), .some 43)), (none, (.call (.func 93) [.tmp 42, .tmp 43], .some 44)), (none, (.app 1 1 (.tmp 41) (.tmp 44), .some 45)), (none, (.mov (.tmp 45), .some 7))] []) (.goto 1)) .skip)) (.seq
  (.reg [(none, (.mov (.tmp 6), .some 46)), (none, (.call (.func 57) [.tmp 46], .some 47)), (none, (.mov (.tmp 47), .some 9))] []) (.seq
  (.reg [(none, (.mov (.tmp 6), .some 48)), (none, (.call (.func 59) [.tmp 48], .some 49)), (none, (.mov (.tmp 49), .some 11))] []) (.seq (.seq
  (.reg [(none, (.mov (.tmp 11), .some 50)), (none, (.mov (.tmp 7), .some 51)), (none, (.len .false (.tmp 51), .some 52)), (none, (.bin .gtr (.tmp 50) (.tmp 52), .some 53))] []) (.cond (.tmp 53)
  (.reg [(none, (.mov (.tmp 6), .some 54)), (none, (.mov (.tmp 9), .some 55)), (none, (.call (.func 92) [.tmp 54, .const (.int .i64 10), .tmp 55], .some 56))] []) .skip)) (.seq (.seq
  (.reg [(none, (.mov (.tmp 6), .some 57)), (none, (.call (.func 60) [.tmp 57], .some 58))] []) (.cond (.tmp 58)
  (.reg [(none, (.mov (.tmp 7), .some 59)), (none, (.mov (.tmp 11), .some 60)), (none, (.mov (.tmp 10), .some 61)), (none, (.call (.func 72) [.tmp 59, .tmp 60, .tmp 61], .some 62)), (none, (.mov (.tmp 62), .some 7))] []) .skip)) (.seq (.goto 1) (.seq (.label 0) (.seq (.seq
  (.reg [(none, (.mov (.tmp 6), .some 63)), (none, (.call (.func 56) [.tmp 63], .some 64)), (none, (.new [.int .i64 0, .int .i64 0], .some 12)), (none, (.store 2 (.tmp 12) (.tmp 64), none))] []) (.seq
  (.reg [(none, (.load (.some 2) (.tmp 12), .some 65)), (none, (.call (.func 94) [.tmp 65], .some 66)), (none, (.un .not (.tmp 66), .some 67))] []) (.cond (.tmp 67) (.seq
  (.reg [(none, (.load (.some 2) (.tmp 12), .some 68)), (none, (.mov (.const (.slice none 0 0)), .some 4)), (none, (.store 2 (.tmp 5) (.tmp 68), none))] []) .ret) .skip))) (.seq
  (.reg [(none, (.mov (.tmp 7), .some 69)), (none, (.build [.int .i64 0, .int .i64 0] [], .some 70)), (none, (.mov (.tmp 69), .some 4)), (none, (.store 2 (.tmp 5) (.tmp 70), none))] []) .ret)))))))))))))))))))
theorem b47 : Try.f47.body.bind (compC Try.prog) = some c47 := by kernel_rfl
theorem r47 : compR Try.prog Try.f47 = .some [.tmp 4, .cell 5 (.some 2)] := by kernel_rfl
theorem n47 : (Try.f47.name == "runtime.NumGoroutine") = false := by kernel_rfl
def c51 : C := .seq
  (.reg [(none, (.mov (.const (.slice none 0 0)), .some 2)), (none, (.new [.int .i64 0, .int .i64 0], .some 3))] []) (.seq
  (.reg [(none, (.mov (.tmp 0), .some 7)), (none, (.call (.func 53) [.tmp 7], .some 8)), (none, (.mov (.tmp 8), .some 4))] []) (.seq
  (.reg [(none, (.mov (.const (.slice none 0 0)), .some 5))] []) (.seq (.block 0 (.loop (.seq (.seq
  (.reg [(none, (.mov (.tmp 4), .some 9)), (none, (.call (.func 60) [.tmp 9], .some 10)), (none, (.mov (.tmp 10), .some 11)), (.some (11, .true), (.mov (.tmp 4), .some 12)), (.some (11, .true), (.call (.func 91) [.tmp 12], .some 13)), (.some (11, .true), (.bin .gtr (.tmp 13) (.const (.int .i64 0)), .some 14)), (none, (.pick (.tmp 11) (.tmp 14) (.const (.bool .false)), .some 15))] []) (.cond (.tmp 15) .skip (.exit 0))) (.block 1
  (.reg [(none, (.mov (.tmp 5), .some 16)), (none, (.mov (.tmp 4), .some 17)), (none, (.call (.func 54) [.tmp 17], .some 18)), (none, (.bsl 3 [.tmp 18], .some 19)), (none, (.app 3 40 (.tmp 16) (.tmp 19), .some 20)), (none, (.mov (.tmp 20), .some 5))] []))))) (.seq (.seq
  (.reg [(none, (.mov (.tmp 4), .some 21)), (none, (.call (.func 56) [.tmp 21], .some 22)), (none, (.new [.int .i64 0, .int .i64 0], .some 6)), (none, (.store 2 (.tmp 6) (.tmp 22), none))] []) (.seq
  (.reg [(none, (.load (.some 2) (.tmp 6), .some 23)), (none, (.call (.func 94) [.tmp 23], .some 24)), (none, (.un .not (.tmp 24), .some 25))] []) (.cond (.tmp 25) (.seq
  (.reg [(none, (.load (.some 2) (.tmp 6), .some 26)), (none, (.mov (.const (.slice none 0 0)), .some 2)), (none, (.store 2 (.tmp 3) (.tmp 26), none))] []) .ret) .skip))) (.seq
  (.reg [(none, (.mov (.tmp 5), .some 27)), (none, (.build [.int .i64 0, .int .i64 0] [], .some 28)), (none, (.mov (.tmp 27), .some 2)), (none, (.store 2 (.tmp 3) (.tmp 28), none))] []) .ret)))))
theorem b51 : Try.f51.body.bind (compC Try.prog) = some c51 := by kernel_rfl
theorem r51 : compR Try.prog Try.f51 = .some [.tmp 2, .cell 3 (.some 2)] := by kernel_rfl
theorem n51 : (Try.f51.name == "runtime.NumGoroutine") = false := by kernel_rfl
def c55 : C := .seq
  (.reg [(none, (.box (.tmp 0), .some 1)), (none, (.new [.slice none 0 0, .int .i64 0, .int .i64 0, .int .i64 0], .some 2)), (none, (.new [.slice none 0 0, .int .i64 0, .int .i64 0], .some 3))] []) (.seq
  (.reg [(none, (.load (.some 4) (.tmp 1), .some 11)), (none, (.call (.func 95) [.tmp 11], .some 12)), (none, (.mov (.tmp 12), .some 10)), (none, (.ext (.tmp 10) 0, .some 13)), (none, (.ext (.tmp 10) 1, .some 14)), (none, (.new [.slice none 0 0, .int .i64 0, .int .i64 0, .int .i64 0], .some 4)), (none, (.store 4 (.tmp 4) (.tmp 13), none)), (none, (.mov (.tmp 14), .some 5))] []) (.seq (.seq
  (.reg [(none, (.fadr 2 (.tmp 4), .some 15)), (none, (.fadr 0 (.tmp 15), .some 16)), (none, (.load none (.tmp 16), .some 17)), (none, (.bin .neq (.tmp 17) (.const (.int .i64 0)), .some 18))] []) (.cond (.tmp 18) (.seq
  (.reg [(none, (.load (.some 4) (.tmp 4), .some 19)), (none, (.build [.slice none 0 0, .int .i64 0, .int .i64 0] [], .some 20)), (none, (.store 4 (.tmp 2) (.tmp 19), none)), (none, (.store 3 (.tmp 3) (.tmp 20), none))] []) .ret) .skip)) (.seq (.seq
  (.reg [(none, (.mov (.tmp 5), .some 21)), (none, (.bin .rem (.tmp 21) (.const (.int .u64 2)), .some 22)), (none, (.bin .eql (.tmp 22) (.const (.int .u64 0)), .some 23))] []) (.cond (.tmp 23) (.seq (.seq
  (.reg [(none, (.mov (.tmp 5), .some 24)), (none, (.bin .quo (.tmp 24) (.const (.int .u64 2)), .some 25)), (none, (.bin .add (.tmp 25) (.const (.int .u64 1)), .some 26)), (none, (.bin .gtr (.tmp 26) (.const (.int .u64 1048576)), .some 27))] []) (.cond (.tmp 27) (.seq
  (.reg [(none, (.load (.some 4) (.tmp 4), .some 28)), (none, (.fadr 1 (.tmp 1), .some 29)), (none, (.load none (.tmp 29), .some 30)), (none, (.call (.func 97) [.tmp 28, .const (.int .i64 2), .tmp 30], .some 31)), (none, (.build [.slice none 0 0, .int .i64 0, .int .i64 0] [], .some 32)), (none, (.store 4 (.tmp 2) (.tmp 31), none)), (none, (.store 3 (.tmp 3) (.tmp 32), none))] []) .ret) .skip)) (.seq
  (.reg [(none, (.load (.some 4) (.tmp 4), .some 34)), (none, (.mov (.tmp 5), .some 35)), (none, (.bin .quo (.tmp 35) (.const (.int .u64 2)), .some 36)), (none, (.cvt .i64 (.tmp 36), .some 37)), (none, (.bin .add (.tmp 37) (.const (.int .i64 1)), .some 38)), (none, (.call (.func 98) [.tmp 34, .tmp 38], .some 39)), (none, (.mov (.tmp 39), .some 33)), (none, (.ext (.tmp 33) 0, .some 40)), (none, (.ext (.tmp 33) 1, .some 41)), (none, (.new [.slice none 0 0, .int .i64 0, .int .i64 0, .int .i64 0], .some 6)), (none, (.store 4 (.tmp 6) (.tmp 40), none)), (none, (.mov (.tmp 41), .some 7))] []) (.seq (.seq
  (.reg [(none, (.fadr 2 (.tmp 6), .some 42)), (none, (.fadr 0 (.tmp 42), .some 43)), (none, (.load none (.tmp 43), .some 44)), (none, (.bin .neq (.tmp 44) (.const (.int .i64 0)), .some 45))] []) (.cond (.tmp 45) (.seq
  (.reg [(none, (.load (.some 4) (.tmp 6), .some 46)), (none, (.build [.slice none 0 0, .int .i64 0, .int .i64 0] [], .some 47)), (none, (.store 4 (.tmp 2) (.tmp 46), none)), (none, (.store 3 (.tmp 3) (.tmp 47), none))] []) .ret) .skip)) (.seq
  (.reg [(none, (.load (.some 4) (.tmp 6), .some 48)), (none, (.mov (.tmp 7), .some 49)), (none, (.build [.slice none 0 0, .int .i64 0, .int .i64 0] [(0, (1, .tmp 49))], .some 50)), (none, (.store 4 (.tmp 2) (.tmp 48), none)), (none, (.store 3 (.tmp 3) (.tmp 50), none))] []) .ret)))) .skip)) (.seq (.seq
  (.reg [(none, (.mov (.tmp 5), .some 51)), (none, (.bin .quo (.tmp 51) (.const (.int .u64 2)), .some 52)), (none, (.bin .gtr (.tmp 52) (.const (.int .u64 1048572)), .some 53))] []) (.cond (.tmp 53) (.seq
  (.reg [(none, (.load (.some 4) (.tmp 4), .some 54)), (none, (.fadr 1 (.tmp 1), .some 55)), (none, (.load none (.tmp 55), .some 56)), (none, (.call (.func 97) [.tmp 54, .const (.int .i64 2), .tmp 56], .some 57)), (none, (.build [.slice none 0 0, .int .i64 0, .int .i64 0] [], .some 58)), (none, (.store 4 (.tmp 2) (.tmp 57), none)), (none, (.store 3 (.tmp 3) (.tmp 58), none))] []) .ret) .skip)) (.seq
  (.reg [(none, (.load (.some 4) (.tmp 4), .some 60)), (none, (.call (.func 95) [.tmp 60], .some 61)), (none, (.mov (.tmp 61), .some 59)), (none, (.ext (.tmp 59) 0, .some 62)), (none, (.ext (.tmp 59) 1, .some 63)), (none, (.new [.slice none 0 0, .int .i64 0, .int .i64 0, .int .i64 0], .some 8)), (none, (.store 4 (.tmp 8) (.tmp 62), none)), (none, (.mov (.tmp 63), .some 9))] []) (.seq (.seq
  (.reg [(none, (.fadr 2 (.tmp 8), .some 64)), (none, (.fadr 0 (.tmp 64), .some 65)), (none, (.load none (.tmp 65), .some 66)), (none, (.bin .neq (.tmp 66) (.const (.int .i64 0)), .some 67))] []) (.cond (.tmp 67) (.seq
  (.reg [(none, (.load (.some 4) (.tmp 8), .some 68)), (none, (.build [.slice none 0 0, .int .i64 0, .int .i64 0] [], .some 69)), (none, (.store 4 (.tmp 2) (.tmp 68), none)), (none, (.store 3 (.tmp 3) (.tmp 69), none))] []) .ret) .skip)) (.seq (.seq
  (.reg [(none, (.mov (.tmp 9), .some 70)), (none, (.bin .gtr (.tmp 70) (.const (.int .u64 65535)), .some 71))] []) (.cond (.tmp 71) (.seq
  (.reg [(none, (.load (.some 4) (.tmp 8), .some 72)), (none, (.fadr 1 (.tmp 4), .some 73)), (none, (.load none (.tmp 73), .some 74)), (none, (.call (.func 97) [.tmp 72, .const (.int .i64 10), .tmp 74], .some 75)), (none, (.build [.slice none 0 0, .int .i64 0, .int .i64 0] [], .some 76)), (none, (.store 4 (.tmp 2) (.tmp 75), none)), (none, (.store 3 (.tmp 3) (.tmp 76), none))] []) .ret) .skip)) (.seq
  (.reg [(none, (.load (.some 4) (.tmp 8), .some 77)), (none, (.mov (.tmp 9), .some 78)), (none, (.cvt .i64 (.tmp 78), .some 79)), (none, (.bin .add (.tmp 79) (.const (.int .i64 1)), .some 80)), (none, (.mov (.tmp 5), .some 81)), (none, (.bin .quo (.tmp 81) (.const (.int .u64 2)), .some 82)), (none, (.cvt .i64 (.tmp 82), .some 83)), (none, (.bin .add (.tmp 83) (.const (.int .i64 4)), .some 84)), (none, (.build [.slice none 0 0, .int .i64 0, .int .i64 0] [(1, (1, .tmp 80)), (2, (1, .tmp 84))], .some 85)), (none, (.store 4 (.tmp 2) (.tmp 77), none)), (none, (.store 3 (.tmp 3) (.tmp 85), none))] []) .ret))))))))
theorem b55 : Try.f55.body.bind (compC Try.prog) = some c55 := by kernel_rfl
theorem r55 : compR Try.prog Try.f55 = .some [.cell 2 (.some 4), .cell 3 (.some 3)] := by kernel_rfl
theorem n55 : (Try.f55.name == "runtime.NumGoroutine") = false := by kernel_rfl
def c56 : C := .seq
  (.reg [(none, (.new [.int .i64 0, .int .i64 0], .some 2))] []) (.seq (.seq
  (.reg [(none, (.mov (.tmp 0), .some 3)), (none, (.eqp .false (.tmp 3) (.const (.pointer none)), .some 4))] []) (.cond (.tmp 4) (.seq
  (.reg [(none, (.call (.func 71) [.const (.int .i64 19), .const (.int .i64 0)], .some 5)), (none, (.store 2 (.tmp 2) (.tmp 5), none))] []) .ret) .skip)) (.seq
  (.reg [(none, (.mov (.tmp 0), .some 6)), (none, (.nilc (.tmp 6), .some 7)), (none, (.fadr 2 (.tmp 7), .some 8)), (none, (.load (.some 2) (.tmp 8), .some 9)), (none, (.store 2 (.tmp 2) (.tmp 9), none))] []) .ret))
theorem b56 : Try.f56.body.bind (compC Try.prog) = some c56 := by kernel_rfl
theorem r56 : compR Try.prog Try.f56 = .some [.cell 2 (.some 2)] := by kernel_rfl
theorem n56 : (Try.f56.name == "runtime.NumGoroutine") = false := by kernel_rfl
def c57 : C := .seq
  (.reg [(none, (.mov (.const (.int .i64 0)), .some 2))] []) (.seq (.seq
  (.reg [(none, (.mov (.tmp 0), .some 3)), (none, (.eqp .false (.tmp 3) (.const (.pointer none)), .some 4))] []) (.cond (.tmp 4) (.seq
  (.reg [(none, (.mov (.const (.int .i64 0)), .some 2))] []) .ret) .skip)) (.seq
  (.reg [(none, (.mov (.tmp 0), .some 5)), (none, (.nilc (.tmp 5), .some 6)), (none, (.fadr 1 (.tmp 6), .some 7)), (none, (.load none (.tmp 7), .some 8)), (none, (.mov (.tmp 8), .some 2))] []) .ret))
theorem b57 : Try.f57.body.bind (compC Try.prog) = some c57 := by kernel_rfl
theorem r57 : compR Try.prog Try.f57 = .some [.tmp 2] := by kernel_rfl
theorem n57 : (Try.f57.name == "runtime.NumGoroutine") = false := by kernel_rfl
def c58 : C := .seq
  (.reg [(none, (.mov (.const (.bool .false)), .some 2)), (none, (.mov (.const (.int .i64 0)), .some 3))] []) (.seq
  (.reg [(none, (.mov (.tmp 0), .some 9)), (none, (.call (.func 57) [.tmp 9], .some 10)), (none, (.mov (.tmp 10), .some 4))] []) (.seq
  (.reg [(none, (.mov (.tmp 0), .some 11)), (none, (.call (.func 99) [.tmp 11], .some 12)), (none, (.mov (.tmp 12), .some 5))] []) (.seq (.seq
  (.reg [(none, (.mov (.tmp 0), .some 13)), (none, (.call (.func 60) [.tmp 13], .some 14)), (none, (.un .not (.tmp 14), .some 15))] []) (.cond (.tmp 15) (.seq
  (.reg [(none, (.mov (.const (.bool .false)), .some 2)), (none, (.mov (.const (.int .i64 0)), .some 3))] []) .ret) .skip)) (.seq
  (.reg [(none, (.mov (.tmp 5), .some 16)), (none, (.bin .rem (.tmp 16) (.const (.int .u64 2)), .some 17)), (none, (.bin .eql (.tmp 17) (.const (.int .u64 1)), .some 18)), (none, (.mov (.tmp 18), .some 6)), (none, (.mov (.const (.int .i64 1)), .some 7)), (none, (.mov (.const (.int .i64 1048576)), .some 8))] []) (.seq (.seq
  (.reg [(none, (.mov (.tmp 6), .some 19))] []) (.cond (.tmp 19)
  (.reg [(none, (.mov (.const (.int .i64 4)), .some 7)), (none, (.mov (.const (.int .i64 1048576)), .some 8))] []) .skip)) (.seq (.seq
  (.reg [(none, (.mov (.tmp 5), .some 20)), (none, (.bin .quo (.tmp 20) (.const (.int .u64 2)), .some 21)), (none, (.mov (.tmp 8), .some 22)), (none, (.mov (.tmp 7), .some 23)), (none, (.bin .sub (.tmp 22) (.tmp 23), .some 24)), (none, (.cvt .u64 (.tmp 24), .some 25)), (none, (.bin .gtr (.tmp 21) (.tmp 25), .some 26))] []) (.cond (.tmp 26) (.seq
  (.reg [(none, (.mov (.tmp 0), .some 27)), (none, (.mov (.tmp 4), .some 28)), (none, (.call (.func 92) [.tmp 27, .const (.int .i64 2), .tmp 28], .some 29))] []) (.seq
  (.reg [(none, (.mov (.const (.bool .false)), .some 2)), (none, (.mov (.const (.int .i64 0)), .some 3))] []) .ret)) .skip)) (.seq
  (.reg [(none, (.mov (.tmp 6), .some 30)), (none, (.mov (.tmp 5), .some 31)), (none, (.bin .quo (.tmp 31) (.const (.int .u64 2)), .some 32)), (none, (.cvt .i64 (.tmp 32), .some 33)), (none, (.mov (.tmp 7), .some 34)), (none, (.bin .add (.tmp 33) (.tmp 34), .some 35)), (none, (.mov (.tmp 30), .some 2)), (none, (.mov (.tmp 35), .some 3))] []) .ret)))))))
theorem b58 : Try.f58.body.bind (compC Try.prog) = some c58 := by kernel_rfl
theorem r58 : compR Try.prog Try.f58 = .some [.tmp 2, .tmp 3] := by kernel_rfl
theorem n58 : (Try.f58.name == "runtime.NumGoroutine") = false := by kernel_rfl
def c65 : C := .seq
  (.reg [(none, (.mov (.const (.int .i64 0)), .some 4)), (none, (.mov (.const (.bool .false)), .some 5))] []) (.seq
  (.reg [(none, (.mov (.tmp 0), .some 8)), (none, (.call (.func 53) [.tmp 8], .some 9)), (none, (.mov (.tmp 9), .some 6))] []) (.seq
  (.reg [(none, (.mov (.tmp 6), .some 10)), (none, (.mov (.tmp 1), .some 11)), (none, (.call (.func 101) [.tmp 11], .some 12)), (none, (.call (.func 106) [.tmp 10, .tmp 12], .some 13)), (none, (.mov (.tmp 13), .some 7))] []) (.seq (.seq
  (.reg [(none, (.mov (.tmp 6), .some 14)), (none, (.call (.func 60) [.tmp 14], .some 15)), (none, (.un .not (.tmp 15), .some 16))] []) (.cond (.tmp 16) (.seq
  (.reg [(none, (.mov (.const (.int .i64 0)), .some 4)), (none, (.mov (.const (.bool .false)), .some 5))] []) .ret) .skip)) (.seq
  (.reg [(none, (.mov (.tmp 7), .some 17)), (none, (.call (.func 35) [.tmp 17], .some 18)), (none, (.mov (.tmp 18), .some 4)), (none, (.mov (.const (.bool .true)), .some 5))] []) .ret))))
theorem b65 : Try.f65.body.bind (compC Try.prog) = some c65 := by kernel_rfl
theorem r65 : compR Try.prog Try.f65 = .some [.tmp 4, .tmp 5] := by kernel_rfl
theorem n65 : (Try.f65.name == "runtime.NumGoroutine") = false := by kernel_rfl
def c68 : C := .seq
  (.reg [(none, (.mov (.const (.int .i64 0)), .some 6))] []) (.seq (.seq
  (.reg [(none, (.mov (.tmp 1), .some 10)), (none, (.mx .true (.tmp 10) (.const (.int .i64 0)), .some 11)), (none, (.mov (.tmp 11), .some 7))] []) (.block 0 (.loop (.seq (.seq
  (.reg [(none, (.mov (.tmp 7), .some 12)), (none, (.mov (.tmp 0), .some 13)), (none, (.len .false (.tmp 13), .some 14)), (none, (.bin .lss (.tmp 12) (.tmp 14), .some 15))] []) (.cond (.tmp 15) .skip (.exit 0))) (.seq (.block 1 (.seq
  (.reg [(none, (.mov (.tmp 0), .some 19)), (none, (.mov (.tmp 7), .some 20)), (none, (.slice 1 (.tmp 19) (.some (.tmp 20)) none none, .some 21)), (none, (.build [.slice none 0 0, .int .i64 0, .int .i64 0, .int .i64 0] [(0, (1, .tmp 21))], .some 22)), (none, (.mov (.tmp 2), .some 23)), (none, (.call (.func 64) [.tmp 22, .tmp 23], .some 24)), (none, (.mov (.tmp 24), .some 18)), (none, (.ext (.tmp 18) 0, .some 25)), (none, (.ext (.tmp 18) 1, .some 26)), (none, (.new [.slice none 0 0, .int .i64 0, .int .i64 0, .int .i64 0], .some 8)), (none, (.store 4 (.tmp 8) (.tmp 25), none)), (none, (.mov (.tmp 26), .some 9))] []) (.seq
  (.reg [(none, (.fadr 2 (.tmp 8), .some 27)), (none, (.fadr 0 (.tmp 27), .some 28)), (none, (.load none (.tmp 28), .some 29)), (none, (.bin .eql (.tmp 29) (.const (.int .i64 0)), .some 30))] []) (.cond (.tmp 30) (.seq
  (.reg [(none, (.mov (.tmp 7), .some 31)), (none, (.mov (.tmp 31), .some 6))] []) .ret) .skip))))
  (.reg [(none, (.mov (.tmp 7), .some 16)), (none, (.bin .add (.tmp 16) (.const (.int .i64 1)), .some 17)), (none, (.mov (.tmp 17), .some 7))] [])))))) (.seq
  (.reg [(none, (.mov (.const (.int .i64 (-1))), .some 6))] []) .ret))
theorem b68 : Try.f68.body.bind (compC Try.prog) = some c68 := by kernel_rfl
theorem r68 : compR Try.prog Try.f68 = .some [.tmp 6] := by kernel_rfl
theorem n68 : (Try.f68.name == "runtime.NumGoroutine") = false := by kernel_rfl
def c69 : C := .seq
  (.reg [(none, (.mov (.const (.slice none 0 0)), .some 4))] []) (.seq
  (.reg [(none, (.mov (.const (.slice none 0 0)), .some 5))] []) (.seq
  (.reg [(none, (.mov (.const (.int .i64 0)), .some 6))] []) (.block 0 (.loop (.block 1 (.seq
  (.reg [(none, (.mov (.tmp 0), .some 12)), (none, (.mov (.tmp 6), .some 13)), (none, (.mov (.tmp 1), .some 14)), (none, (.call (.func 67) [.tmp 12, .tmp 13, .tmp 14], .some 15)), (none, (.mov (.tmp 15), .some 11)), (none, (.ext (.tmp 11) 0, .some 16)), (none, (.ext (.tmp 11) 1, .some 17)), (none, (.mov (.tmp 16), .some 7)), (none, (.mov (.tmp 17), .some 8))] []) (.seq (.seq
  (.reg [(none, (.mov (.tmp 8), .some 18)), (none, (.un .not (.tmp 18), .some 19))] []) (.cond (.tmp 19) (.seq
  (.reg [(none, (.mov (.tmp 5), .some 20)), (none, (.mov (.tmp 20), .some 4))] []) .ret) .skip)) (.seq
  (.reg [(none, (.mov (.tmp 5), .some 21)), (none, (.mov (.tmp 7), .some 22)), (none, (.bsl 1 [.tmp 22], .some 23)), (none, (.app 1 8 (.tmp 21) (.tmp 23), .some 24)), (none, (.mov (.tmp 24), .some 5))] []) (.seq
  (.reg [(none, (.mov (.tmp 0), .some 26)), (none, (.mov (.tmp 7), .some 27)), (none, (.slice 1 (.tmp 26) (.some (.tmp 27)) none none, .some 28)), (none, (.mov (.tmp 1), .some 29)), (none, (.call (.func 65) [.tmp 28, .tmp 29], .some 30)), (none, (.mov (.tmp 30), .some 25)), (none, (.ext (.tmp 25) 0, .some 31)), (none, (.ext (.tmp 25) 1, .some 32)), (none, (.mov (.tmp 31), .some 9)), (none, (.mov (.tmp 32), .some 10))] [])
  (.reg [(none, (.mov (.tmp 7), .some 33)), (none, (.mov (.tmp 9), .some 34)), (none, (.bin .add (.tmp 33) (.tmp 34), .some 35)), (none, (.mov (.tmp 35), .some 6))] []))))))))))
theorem b69 : Try.f69.body.bind (compC Try.prog) = some c69 := by kernel_rfl
theorem r69 : compR Try.prog Try.f69 = .some [.tmp 4] := by kernel_rfl
theorem n69 : (Try.f69.name == "runtime.NumGoroutine") = false := by kernel_rfl
def c70 : C := .seq
  (.reg [(none, (.box (.tmp 0), .some 3)), (none, (.mov (.const (.int .i64 0)), .some 6))] []) (.seq (.block 0 (.seq
  (.reg [(none, (.load (.some 3) (.tmp 3), .some 8)), (none, (.call (.func 38) [.tmp 8], .some 9)), (none, (.un .not (.tmp 9), .some 10)), (none, (.mov (.tmp 10), .some 7))] []) (.cond (.tmp 7) (.seq
  (.reg [(none, (.mov (.const (.int .i64 3)), .some 6))] []) .ret) (.seq
  (.reg [(none, (.load (.some 3) (.tmp 3), .some 12)), (none, (.call (.func 40) [.tmp 12], .some 13)), (none, (.mov (.tmp 2), .some 14)), (none, (.mov (.tmp 1), .some 15)), (none, (.bin .sub (.tmp 14) (.tmp 15), .some 16)), (none, (.bin .gtr (.tmp 13) (.tmp 16), .some 17)), (none, (.mov (.tmp 17), .some 11))] []) (.cond (.tmp 11) (.seq
  (.reg [(none, (.mov (.const (.int .i64 11)), .some 6))] []) .ret) (.seq
  (.reg [(none, (.fadr 1 (.tmp 3), .some 19)), (none, (.load none (.tmp 19), .some 20)), (none, (.mov (.tmp 1), .some 21)), (none, (.bin .gtr (.tmp 20) (.tmp 21), .some 22)), (none, (.mov (.tmp 22), .some 18))] []) (.cond (.tmp 18) (.seq
  (.reg [(none, (.mov (.const (.int .i64 10)), .some 6))] []) .ret) .skip))))))) (.seq
  (.reg [(none, (.mov (.const (.int .i64 0)), .some 6))] []) .ret))
theorem b70 : Try.f70.body.bind (compC Try.prog) = some c70 := by kernel_rfl
theorem r70 : compR Try.prog Try.f70 = .some [.tmp 6] := by kernel_rfl
theorem n70 : (Try.f70.name == "runtime.NumGoroutine") = false := by kernel_rfl
def c78 : C := .seq
  (.reg [(none, (.mov (.tmp 0), .some 4)), (none, (.call (.func 76) [.tmp 4], .some 5)), (none, (.bin .eql (.tmp 5) (.const (.int .i64 0)), .some 6))] []) (.cond (.tmp 6)
  (.reg [(none, (.mov (.tmp 0), .some 7)), (none, (.mov (.tmp 1), .some 8)), (none, (.nilc (.tmp 7), .some 9)), (none, (.fadr 2 (.tmp 9), .some 10)), (none, (.store 1 (.tmp 10) (.tmp 8), none))] []) .skip)
theorem b78 : Try.f78.body.bind (compC Try.prog) = some c78 := by kernel_rfl
theorem r78 : compR Try.prog Try.f78 = .some [] := by kernel_rfl
theorem n78 : (Try.f78.name == "runtime.NumGoroutine") = false := by kernel_rfl
def c81 : C := .seq
  (.reg [(none, (.mov (.const (.int .u32 0)), .some 2))] []) (.seq
  (.reg [(none, (.call (.func 111) [], .some 3)), (none, (.mov (.tmp 0), .some 4)), (none, (.call (.func 110) [.tmp 3, .tmp 4], .some 5)), (none, (.call (.func 109) [.tmp 5], .some 6)), (none, (.mov (.tmp 6), .some 2))] []) .ret)
theorem b81 : Try.f81.body.bind (compC Try.prog) = some c81 := by kernel_rfl
theorem r81 : compR Try.prog Try.f81 = .some [.tmp 2] := by kernel_rfl
theorem n81 : (Try.f81.name == "runtime.NumGoroutine") = false := by kernel_rfl
def c99 : C := .seq
  (.reg [(none, (.mov (.const (.int .u64 0)), .some 2))] []) (.scope (.seq
  (.reg [(none, (.mov (.const (.int .u64 0)), .some 3))] []) (.seq
  (.reg [(none, (.mov (.const (.int .u8 0)), .some 4))] []) (.seq
  (.reg [(none, (.mov (.tmp 0), .some 7)), (none, (.call (.func 57) [.tmp 7], .some 8)), (none, (.mov (.const (.int .i64 0)), .some 5)), (none, (.mov (.tmp 8), .some 6))] []) (.seq (.label 0) (.seq
  (.reg [(none, (.mov (.tmp 0), .some 9)), (none, (.call (.func 117) [.tmp 9], .some 10)), (none, (.mov (.tmp 10), .some 4))] []) (.seq (.block 0 (.seq
  (.reg [(none, (.mov (.tmp 0), .some 12)), (none, (.call (.func 60) [.tmp 12], .some 13)), (none, (.un .not (.tmp 13), .some 14)), (none, (.mov (.tmp 14), .some 11))] []) (.cond (.tmp 11) (.seq
  (.reg [(none, (.mov (.const (.int .u64 0)), .some 2))] []) .ret) (.seq
  (.reg [(none, (.mov (.tmp 5), .some 16)), (none, (.bin .eql (.tmp 16) (.const (.int .i64 63)), .some 17)), (none, (.mov (.tmp 17), .some 18)), (.some (18, .true), (.mov (.tmp 4), .some 19)), (.some (18, .true), (.bin .gtr (.tmp 19) (.const (.int .u8 1)), .some 20)), (none, (.pick (.tmp 18) (.tmp 20) (.const (.bool .false)), .some 21)), (none, (.mov (.tmp 21), .some 15))] []) (.cond (.tmp 15) (.seq
  (.reg [(none, (.mov (.tmp 0), .some 22)), (none, (.mov (.tmp 0), .some 23)), (none, (.call (.func 57) [.tmp 23], .some 24)), (none, (.bin .sub (.tmp 24) (.const (.int .i64 1)), .some 25)), (none, (.call (.func 92) [.tmp 22, .const (.int .i64 5), .tmp 25], .some 26))] []) (.seq
  (.reg [(none, (.mov (.const (.int .u64 0)), .some 2))] []) .ret)) (.seq
  (.reg [(none, (.mov (.tmp 4), .some 28)), (none, (.bin .eql (.tmp 28) (.const (.int .u8 0)), .some 29)), (none, (.mov (.tmp 29), .some 30)), (.some (30, .true), (.mov (.tmp 0), .some 31)), (.some (30, .true), (.call (.func 57) [.tmp 31], .some 32)), (.some (30, .true), (.bin .sub (.tmp 32) (.const (.int .i64 1)), .some 33)), (.some (30, .true), (.mov (.tmp 6), .some 34)), (.some (30, .true), (.bin .gtr (.tmp 33) (.tmp 34), .some 35)), (none, (.pick (.tmp 30) (.tmp 35) (.const (.bool .false)), .some 36)), (none, (.mov (.tmp 36), .some 27))] []) (.cond (.tmp 27) (.seq
  (.reg [(none, (.mov (.tmp 0), .some 37)), (none, (.mov (.tmp 0), .some 38)), (none, (.call (.func 57) [.tmp 38], .some 39)), (none, (.bin .sub (.tmp 39) (.const (.int .i64 1)), .some 40)), (none, (.call (.func 92) [.tmp 37, .const (.int .i64 4), .tmp 40], .some 41))] []) (.seq
  (.reg [(none, (.mov (.const (.int .u64 0)), .some 2))] []) .ret)) .skip))))))) (.seq
  (.reg [(none, (.mov (.tmp 3), .some 42)), (none, (.mov (.tmp 4), .some 43)), (none, (.bin .rem (.tmp 43) (.const (.int .u8 128)), .some 44)), (none, (.cvt .u64 (.tmp 44), .some 45)), (none, (.mov (.tmp 5), .some 46)), (none, (.bin .shl (.tmp 45) (.tmp 46), .some 47)), (none, (.bin .or (.tmp 42) (.tmp 47), .some 48)), (none, (.mov (.tmp 48), .some 3))] []) (.seq
  (.reg [(none, (.mov (.tmp 5), .some 49)), (none, (.bin .add (.tmp 49) (.const (.int .i64 7)), .some 50)), (none, (.mov (.tmp 50), .some 5))] []) (.seq (.seq
  (.reg [(none, (.mov (.tmp 4), .some 51)), (none, (.bin .geq (.tmp 51) (.const (.int .u8 128)), .some 52))] []) (.cond (.tmp 52) (.goto 0) .skip)) (.seq
  (.reg [(none, (.mov (.tmp 3), .some 53)), (none, (.mov (.tmp 53), .some 2))] []) .ret)))))))))))
theorem b99 : Try.f99.body.bind (compC Try.prog) = some c99 := by kernel_rfl
theorem r99 : compR Try.prog Try.f99 = .some [.tmp 2] := by kernel_rfl
theorem n99 : (Try.f99.name == "runtime.NumGoroutine") = false := by kernel_rfl
def c103 : C := .seq
  (.reg [(none, (.mov (.tmp 0), .some 8)), (none, (.call (.func 81) [.tmp 8], .some 9)), (none, (.cvt .u64 (.tmp 9), .some 10)), (none, (.mov (.tmp 1), .some 11)), (none, (.bin .neq (.tmp 10) (.tmp 11), .some 12))] []) (.cond (.tmp 12)
  (.reg [(none, (.mov (.tmp 2), .some 13)), (none, (.mov (.tmp 3), .some 14)), (none, (.call (.tmp 13) [.const (.int .i64 6), .tmp 14], .some 15))] []) .skip)
theorem b103 : Try.f103.body.bind (compC Try.prog) = some c103 := by kernel_rfl
theorem r103 : compR Try.prog Try.f103 = .some [] := by kernel_rfl
theorem n103 : (Try.f103.name == "runtime.NumGoroutine") = false := by kernel_rfl
def c109 : C := .seq
  (.reg [(none, (.mov (.const (.int .u32 0)), .some 2))] []) (.seq
  (.reg [(none, (.mov (.tmp 0), .some 3)), (none, (.un .xor (.tmp 3), .some 4)), (none, (.mov (.tmp 4), .some 2))] []) .ret)
theorem b109 : Try.f109.body.bind (compC Try.prog) = some c109 := by kernel_rfl
theorem r109 : compR Try.prog Try.f109 = .some [.tmp 2] := by kernel_rfl
theorem n109 : (Try.f109.name == "runtime.NumGoroutine") = false := by kernel_rfl
def c118 : C := .seq
  (.reg [(none, (.mov (.const (.int .u64 0)), .some 4))] []) (.seq
  (.reg [(none, (.mov (.tmp 0), .some 7)), (none, (.call (.func 57) [.tmp 7], .some 8)), (none, (.mov (.tmp 8), .some 5))] []) (.seq
  (.reg [(none, (.mov (.tmp 0), .some 9)), (none, (.call (.func 99) [.tmp 9], .some 10)), (none, (.mov (.tmp 10), .some 6))] []) (.seq (.seq
  (.reg [(none, (.mov (.tmp 6), .some 11)), (none, (.mov (.tmp 1), .some 12)), (none, (.bin .gtr (.tmp 11) (.tmp 12), .some 13))] []) (.cond (.tmp 13) (.seq
  (.reg [(none, (.mov (.tmp 0), .some 14)), (none, (.mov (.tmp 5), .some 15)), (none, (.call (.func 92) [.tmp 14, .const (.int .i64 2), .tmp 15], .some 16))] []) (.seq
  (.reg [(none, (.mov (.const (.int .u64 0)), .some 4))] []) .ret)) .skip)) (.seq
  (.reg [(none, (.mov (.tmp 6), .some 17)), (none, (.mov (.tmp 17), .some 4))] []) .ret))))
theorem b118 : Try.f118.body.bind (compC Try.prog) = some c118 := by kernel_rfl
theorem r118 : compR Try.prog Try.f118 = .some [.tmp 4] := by kernel_rfl
theorem n118 : (Try.f118.name == "runtime.NumGoroutine") = false := by kernel_rfl
def c119 : C := .seq
  (.reg [(none, (.box (.tmp 0), .some 2)), (none, (.new [.slice none 0 0, .int .i64 0, .int .i64 0, .int .i64 0], .some 4)), (none, (.mov (.const (.int .u64 0)), .some 5))] []) (.seq
  (.reg [(none, (.fadr 1 (.tmp 2), .some 9)), (none, (.load none (.tmp 9), .some 10)), (none, (.mov (.tmp 10), .some 6))] []) (.seq
  (.reg [(none, (.load (.some 4) (.tmp 2), .some 12)), (none, (.call (.func 95) [.tmp 12], .some 13)), (none, (.mov (.tmp 13), .some 11)), (none, (.ext (.tmp 11) 0, .some 14)), (none, (.ext (.tmp 11) 1, .some 15)), (none, (.new [.slice none 0 0, .int .i64 0, .int .i64 0, .int .i64 0], .some 7)), (none, (.store 4 (.tmp 7) (.tmp 14), none)), (none, (.mov (.tmp 15), .some 8))] []) (.seq (.seq
  (.reg [(none, (.mov (.tmp 8), .some 16)), (none, (.mov (.tmp 1), .some 17)), (none, (.bin .gtr (.tmp 16) (.tmp 17), .some 18))] []) (.cond (.tmp 18) (.seq
  (.reg [(none, (.load (.some 4) (.tmp 7), .some 19)), (none, (.mov (.tmp 6), .some 20)), (none, (.call (.func 97) [.tmp 19, .const (.int .i64 2), .tmp 20], .some 21)), (none, (.store 4 (.tmp 4) (.tmp 21), none)), (none, (.mov (.const (.int .u64 0)), .some 5))] []) .ret) .skip)) (.seq
  (.reg [(none, (.load (.some 4) (.tmp 7), .some 22)), (none, (.mov (.tmp 8), .some 23)), (none, (.store 4 (.tmp 4) (.tmp 22), none)), (none, (.mov (.tmp 23), .some 5))] []) .ret))))
theorem b119 : Try.f119.body.bind (compC Try.prog) = some c119 := by kernel_rfl
theorem r119 : compR Try.prog Try.f119 = .some [.cell 4 (.some 4), .tmp 5] := by kernel_rfl
theorem n119 : (Try.f119.name == "runtime.NumGoroutine") = false := by kernel_rfl
def c120 : C := .seq
  (.reg [(none, (.new [.int .u32 0, .int .u32 0, .int .u32 0, .int .u32 0, .int .u32 0, .int .u32 0, .int .u32 0, .int .u32 0, .int .u32 0, .int .u32 0, .int .u32 0, .int .u32 0, .int .u32 0, .int .u32 0, .int .u32 0, .int .u32 0], .some 0))] []) (.seq
  (.reg [(none, (.new [.int .u32 0, .int .u32 0, .int .u32 0, .int .u32 0, .int .u32 0, .int .u32 0, .int .u32 0, .int .u32 0, .int .u32 0, .int .u32 0, .int .u32 0, .int .u32 0, .int .u32 0, .int .u32 0, .int .u32 0, .int .u32 0], .some 1))] []) (.seq (.seq
  (.reg [(none, (.mov (.const (.int .i64 0)), .some 4))] []) (.block 0 (.loop (.seq
  (.reg [(none, (.bin .lss (.tmp 4) (.const (.int .i64 16)), .some 5))] []) (.seq (.cond (.tmp 5) .skip (.exit 0)) (.seq (.block 1 (.seq
  (.reg [(none, (.mov (.tmp 4), .some 6)), (none, (.mov (.tmp 6), .some 2))] []) (.seq
  (.reg [(none, (.mov (.tmp 2), .some 7)), (none, (.cvt .u32 (.tmp 7), .some 8)), (none, (.mov (.tmp 8), .some 3))] []) (.seq (.seq
  (.reg [(none, (.mov (.const (.int .i64 0)), .some 9))] []) (.block 2 (.loop (.seq
  (.reg [(none, (.bin .lss (.tmp 9) (.const (.int .i64 4)), .some 10))] []) (.seq (.cond (.tmp 10) .skip (.exit 2)) (.seq (.block 3
  (.reg [(none, (.mov (.tmp 3), .some 11)), (none, (.call (.func 122) [.tmp 11], .some 12)), (none, (.mov (.tmp 12), .some 3))] []))
  (.reg [(none, (.bin .add (.tmp 9) (.const (.int .i64 1)), .some 13)), (none, (.mov (.tmp 13), .some 9))] [])))))))
  (.reg [(none, (.mov (.tmp 2), .some 14)), (none, (.mov (.tmp 3), .some 15)), (none, (.aadr 16 1 (.tmp 1) (.tmp 14), .some 16)), (none, (.store 1 (.tmp 16) (.tmp 15), none))] [])))))
  (.reg [(none, (.bin .add (.tmp 4) (.const (.int .i64 1)), .some 17)), (none, (.mov (.tmp 17), .some 4))] []))))))) (.seq
  (.reg [(none, (.load (.some 16) (.tmp 1), .some 18)), (none, (.store 16 (.tmp 0) (.tmp 18), none))] []) .ret)))
theorem b120 : Try.f120.body.bind (compC Try.prog) = some c120 := by kernel_rfl
theorem r120 : compR Try.prog Try.f120 = .some [.cell 0 (.some 16)] := by kernel_rfl
theorem n120 : (Try.f120.name == "runtime.NumGoroutine") = false := by kernel_rfl
def c121 : C := .seq
  (.reg [(none, (.mov (.const (.int .u32 0)), .some 4))] []) (.seq
  (.reg [(none, (.mov (.tmp 0), .some 7)), (none, (.mov (.tmp 1), .some 8)), (none, (.cvt .u32 (.tmp 8), .some 9)), (none, (.bin .xor (.tmp 7) (.tmp 9), .some 10)), (none, (.mov (.tmp 10), .some 0))] []) (.seq (.seq
  (.reg [(none, (.mov (.const (.int .i64 0)), .some 5))] []) (.block 0 (.loop (.seq (.seq
  (.reg [(none, (.mov (.tmp 5), .some 11)), (none, (.bin .lss (.tmp 11) (.const (.int .i64 8)), .some 12))] []) (.cond (.tmp 12) .skip (.exit 0))) (.seq (.block 1 (.seq
  (.reg [(none, (.mov (.tmp 0), .some 15)), (none, (.bin .rem (.tmp 15) (.const (.int .u32 2)), .some 16)), (none, (.mov (.tmp 16), .some 6))] []) (.seq
  (.reg [(none, (.mov (.tmp 0), .some 17)), (none, (.bin .quo (.tmp 17) (.const (.int .u32 2)), .some 18)), (none, (.mov (.tmp 18), .some 0))] []) (.seq
  (.reg [(none, (.mov (.tmp 6), .some 19)), (none, (.bin .eql (.tmp 19) (.const (.int .u32 1)), .some 20))] []) (.cond (.tmp 20)
  (.reg [(none, (.mov (.tmp 0), .some 21)), (none, (.bin .xor (.tmp 21) (.const (.int .u32 2197175160)), .some 22)), (none, (.mov (.tmp 22), .some 0))] []) .skip)))))
  (.reg [(none, (.mov (.tmp 5), .some 13)), (none, (.bin .add (.tmp 13) (.const (.int .i64 1)), .some 14)), (none, (.mov (.tmp 14), .some 5))] [])))))) (.seq
  (.reg [(none, (.mov (.tmp 0), .some 23)), (none, (.mov (.tmp 23), .some 4))] []) .ret)))
theorem b121 : Try.f121.body.bind (compC Try.prog) = some c121 := by kernel_rfl
theorem r121 : compR Try.prog Try.f121 = .some [.tmp 4] := by kernel_rfl
theorem n121 : (Try.f121.name == "runtime.NumGoroutine") = false := by kernel_rfl
def c122 : C := .seq
  (.reg [(none, (.mov (.const (.int .u32 0)), .some 2))] []) (.seq (.seq
  (.reg [(none, (.mov (.tmp 0), .some 3)), (none, (.bin .and (.tmp 3) (.const (.int .u32 1)), .some 4)), (none, (.bin .eql (.tmp 4) (.const (.int .u32 1)), .some 5))] []) (.cond (.tmp 5) (.seq
  (.reg [(none, (.mov (.tmp 0), .some 6)), (none, (.bin .shr (.tmp 6) (.const (.int .u64 1)), .some 7)), (none, (.bin .xor (.tmp 7) (.const (.int .u32 2197175160)), .some 8)), (none, (.mov (.tmp 8), .some 2))] []) .ret) .skip)) (.seq
  (.reg [(none, (.mov (.tmp 0), .some 9)), (none, (.bin .shr (.tmp 9) (.const (.int .u64 1)), .some 10)), (none, (.mov (.tmp 10), .some 2))] []) .ret))
theorem b122 : Try.f122.body.bind (compC Try.prog) = some c122 := by kernel_rfl
theorem r122 : compR Try.prog Try.f122 = .some [.tmp 2] := by kernel_rfl
theorem n122 : (Try.f122.name == "runtime.NumGoroutine") = false := by kernel_rfl
end Go.Proofs.Ytpjkmidjjodplaa
