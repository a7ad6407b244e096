/-
  Contracts of the small functions of epoch and of its reference that only compare numbers: Right, Pos, Admit, Next.
-/
import Derived.Test.YtgphhganepjaiaaBase
import Derived.WalkKit
import Derived.WalkSpells
import Derived.WalkLawsBesides
namespace Go.Proofs.Ytgphhganepjaiaa
open Go.RowKit

def epRight (e : Int) : Bool := decide (1 ≤ e) && decide (e < 4611686018427387904)
def epPos (e : Int) : Bool := decide (e < 4611686018427387904)
def epAdmit (own : Int) (sealed : Bool) (e : Int) : Int :=
  if (!epRight own || !epRight e) = true then 3 else if own < e then 13 else if (decide (e < own) || sealed) = true then 18 else 0

set_option maxHeartbeats 400000 in
theorem epoch_Right (e : Int) (h0 : 0 ≤ e) (w : World) :
    Calls Try.prog 34 #[.int .u64 e] w fun r w' => r = .returned (.bool (epRight e)) ∧ w = w' := by
  unfold epRight
  go_enter Try.func34, Try.ntmps34
  go_wp2
  all_goals (go_ret; exact ⟨by first | (simp [*]; done) | (simp [*]; omega) | (refine ret_bool ?_; rw [Bool.eq_iff_iff]; simp [*]; omega), rfl⟩)

set_option maxHeartbeats 400000 in
theorem ref17_Right (e : Int) (h0 : 0 ≤ e) (w : World) :
    Calls Try.prog 32 #[.int .u64 e] w fun r w' => r = .returned (.bool (epRight e)) ∧ w = w' := by
  unfold epRight
  go_enter Try.func32, Try.ntmps32
  go_wp2
  all_goals (go_ret; exact ⟨by first | (simp [*]; done) | (simp [*]; omega) | (refine ret_bool ?_; rw [Bool.eq_iff_iff]; simp [*]; omega), rfl⟩)

set_option maxHeartbeats 400000 in
theorem epoch_Pos (e : Int) (h0 : 0 ≤ e) (w : World) :
    Calls Try.prog 35 #[.int .u64 e] w fun r w' => r = .returned (.bool (epPos e)) ∧ w = w' := by
  unfold epPos
  go_enter Try.func35, Try.ntmps35
  go_wp2
  all_goals (go_ret; exact ⟨by first | (simp [*]; done) | (simp [*]; omega) | (refine ret_bool ?_; rw [Bool.eq_iff_iff]; simp [*]; omega), rfl⟩)

set_option maxHeartbeats 400000 in
theorem ref17_Pos (e : Int) (h0 : 0 ≤ e) (w : World) :
    Calls Try.prog 36 #[.int .u64 e] w fun r w' => r = .returned (.bool (epPos e)) ∧ w = w' := by
  unfold epPos
  go_enter Try.func36, Try.ntmps36
  go_wp2
  all_goals (go_ret; exact ⟨by first | (simp [*]; done) | (simp [*]; omega) | (refine ret_bool ?_; rw [Bool.eq_iff_iff]; simp [*]; omega), rfl⟩)

set_option maxHeartbeats 400000 in
theorem epoch_Admit (own e : Int) (sealed : Bool) (h0 : 0 ≤ own) (h1 : 0 ≤ e) (w : World) :
    Calls Try.prog 28 #[.int .u64 own, .bool sealed, .int .u64 e] w fun r w' => r = .returned (.int .i64 (epAdmit own sealed e)) ∧ w = w' := by
  go_enter Try.func28, Try.ntmps28
  go_wp2_with (go_at_call 34; (with_reducible refine (epoch_Right _ (by assumption) _).mono ?_); rintro r w' ⟨rfl, rfl⟩)
  all_goals (go_ret; exact ⟨by simp_all [epAdmit] <;> omega, rfl⟩)

set_option maxHeartbeats 400000 in
theorem ref17_Admit (own e : Int) (sealed : Bool) (h0 : 0 ≤ own) (h1 : 0 ≤ e) (w : World) :
    Calls Try.prog 29 #[.int .u64 own, .bool sealed, .int .u64 e] w fun r w' => r = .returned (.int .i64 (epAdmit own sealed e)) ∧ w = w' := by
  go_enter Try.func29, Try.ntmps29
  go_wp2_with (go_at_call 32; (with_reducible refine (ref17_Right _ (by assumption) _).mono ?_); rintro r w' ⟨rfl, rfl⟩)
  all_goals (go_ret; exact ⟨by simp_all [epAdmit] <;> omega, rfl⟩)

end Go.Proofs.Ytgphhganepjaiaa
