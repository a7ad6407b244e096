/-
  EpochWrites: which numbers are epochs and positions, and how they are written. For every input.
-/
import Derived.Test.YtgphhganepjaiaaEpB
import Derived.Test.YtgphhganepjaiaaSame
import Derived.Test.YtgphhganepjaiaaCellEpochWrites
namespace Go.Proofs.Ytgphhganepjaiaa
open Go.RowKit Go.ChangeShapes Go.WideShapes Go.ChangeAt

def WS.putIf (s : WS) (x : Int) (ok : Bool) : WS := if ok = true then s.put (vb x) else s.fail 3

set_option maxHeartbeats 400000 in
theorem epoch_put (B g : Nat) (buf : Value) (s : WS) (x : Int) (ok : Bool) (h0 : 0 ≤ x) (h1 : x < 18446744073709551616) (w : World) (h : Wtr w B g buf s) (hB : B ≤ w.heap.size)
    (hbound : s.l.length + (vb x).length ≤ s.most → s.l.length + (vb x).length ≤ 140737488355328) :
    Calls Try.prog 122 #[ptr g, .int .u64 x, .bool ok] w fun r w' => r = .returned (.tuple #[]) ∧ ∃ buf', WStep g buf w buf' w' ∧ Wtr w' B g buf' (s.putIf x ok) := by
  have HB := Lib.hid hbound
  clear hbound
  cases ok with
  | true =>
    go_enter Try.func122, Try.ntmps122
    go_wp2_with (go_at_call 91; (with_reducible refine (varint_Put B g buf s x h0 h1 _ h hB HB.out).mono ?_); rintro r w2 ⟨rfl, buf', hst, hw⟩)
    go_end0
    exact ⟨rfl, buf', hst, hw⟩
  | false =>
    go_enter Try.func122, Try.ntmps122
    go_wp2_with (go_at_call 124; (with_reducible refine (Writer_Fail B g buf s 3 _ h).mono ?_); rintro r w2 ⟨rfl, hst, hw⟩)
    refine bodyPost_ret (results_none rfl _ _ _) rfl ?_
    exact ⟨rfl, buf, hst, hw⟩

set_option maxHeartbeats 400000 in
theorem epoch_Put (B g : Nat) (buf : Value) (s : WS) (x : Int) (h0 : 0 ≤ x) (h1 : x < 18446744073709551616) (w : World) (h : Wtr w B g buf s) (hB : B ≤ w.heap.size)
    (hbound : s.l.length + (vb x).length ≤ s.most → s.l.length + (vb x).length ≤ 140737488355328) :
    Calls Try.prog 38 #[ptr g, .int .u64 x] w fun r w' => r = .returned (.tuple #[]) ∧ ∃ buf', WStep g buf w buf' w' ∧ Wtr w' B g buf' (s.putIf x (epRight x)) := by
  have HB := Lib.hid hbound
  clear hbound
  go_enter Try.func38, Try.ntmps38
  go_wp2_with (first | (go_at_call 34; (with_reducible refine (epoch_Right x h0 _).mono ?_); rintro r w' ⟨rfl, rfl⟩) | (go_at_call 122; (with_reducible refine (epoch_put B g buf s x _ h0 h1 _ h hB HB.out).mono ?_); rintro r w2 ⟨rfl, buf', hst, hw⟩))
  go_end0
  exact ⟨rfl, buf', hst, hw⟩
set_option maxHeartbeats 400000 in
theorem epoch_PutPos (B g : Nat) (buf : Value) (s : WS) (x : Int) (h0 : 0 ≤ x) (h1 : x < 18446744073709551616) (w : World) (h : Wtr w B g buf s) (hB : B ≤ w.heap.size)
    (hbound : s.l.length + (vb x).length ≤ s.most → s.l.length + (vb x).length ≤ 140737488355328) :
    Calls Try.prog 39 #[ptr g, .int .u64 x] w fun r w' => r = .returned (.tuple #[]) ∧ ∃ buf', WStep g buf w buf' w' ∧ Wtr w' B g buf' (s.putIf x (epPos x)) := by
  have HB := Lib.hid hbound
  clear hbound
  go_enter Try.func39, Try.ntmps39
  go_wp2_with (first | (go_at_call 35; (with_reducible refine (epoch_Pos x h0 _).mono ?_); rintro r w' ⟨rfl, rfl⟩) | (go_at_call 122; (with_reducible refine (epoch_put B g buf s x _ h0 h1 _ h hB HB.out).mono ?_); rintro r w2 ⟨rfl, buf', hst, hw⟩))
  go_end0
  exact ⟨rfl, buf', hst, hw⟩

theorem putIf_20 (x : Int) : ((WS.new 20).putIf x true).code = 0 ∧ ((WS.new 20).putIf x true).bytes = vb x ∧ ((WS.new 20).putIf x true).l.length ≤ 20 ∧ ((WS.new 20).putIf x false).code = 3 ∧ ((WS.new 20).putIf x false).bytes = [] ∧ ((WS.new 20).putIf x false).l.length ≤ 20 := by
  have hl := (vb_len x).2
  have e : (WS.new 20).put (vb x) = ⟨20, vb x, 0⟩ := by
    rw [WS.new_is (by omega), WS.put_ok rfl (by simp; omega)]; rfl
  have f : (WS.new 20).fail 3 = ⟨20, [], 3⟩ := by rw [WS.new_is (by omega)]; rfl
  simp only [WS.putIf, if_true, e, f, WS.bytes]
  exact ⟨trivial, by simp, by omega, by simp, by simp, by simp⟩
theorem same_self (l : List Int) : sameB l l = true := by simp [sameB]

set_option maxRecDepth 100000 in
set_option maxHeartbeats 2000000 in
theorem law_EpochWrites (x : Int) (h0 : 0 ≤ x) (h1 : x < 18446744073709551616) (w : World) :
    Calls Try.prog 5 #[.int .u64 x] w fun r w' => r = .returned (.bool true) ∧ Below w.heap.size w w' := by
  obtain ⟨q1, q2, q3, q4, q5, q6⟩ := putIf_20 x
  have hs := same_self (vb x)
  have hby := vb_by h0 h1
  have hbs : (WS.new 20).l.length + (vb x).length ≤ (WS.new 20).most → (WS.new 20).l.length + (vb x).length ≤ 140737488355328 := by
    intro _; have := (vb_len x).2; simp [WS.new]; omega
  have HBS := Lib.hid hbs
  clear hbs
  have c3 : (epRight x = true ∧ epPos x = true) ∨ (epRight x = false ∧ epPos x = true) ∨ (epRight x = false ∧ epPos x = false) := by
    simp only [epRight, epPos]
    by_cases a : x < 4611686018427387904
    · by_cases b : 1 ≤ x
      · left; simp [a, b]
      · right; left; simp [a, b]
    · right; right; simp [a]
  rcases c3 with ⟨hr, hp⟩ | ⟨hr, hp⟩ | ⟨hr, hp⟩
  all_goals
    go_enter Try.func5, Try.ntmps5
    (go_wp2_with fail; (with_reducible refine (epoch_Right x h0 _).mono ?_); rintro r w' ⟨rfl, rfl⟩)
    (go_wp2_with fail; (with_reducible refine (ref17_Right x h0 _).mono ?_); rintro r w' ⟨rfl, rfl⟩)
    (go_wp2_with fail; (with_reducible refine (epoch_Pos x h0 _).mono ?_); rintro r w' ⟨rfl, rfl⟩)
    (go_wp2_with fail; (with_reducible refine (ref17_Pos x h0 _).mono ?_); rintro r w' ⟨rfl, rfl⟩)
    (go_wp2_with fail; (with_reducible refine (pen_New 20 _ (by omega) (by omega)).mono ?_); rintro r w1 ⟨rfl, hk1, hw1, hs1⟩)
    (go_wp2_with fail; (with_reducible refine (pen_New 20 _ (by omega) (by omega)).mono ?_); rintro r w2 ⟨rfl, hk2, hw2, hs2⟩)
    (go_wp2_with fail; (with_reducible refine (epoch_Put _ _ _ _ x h0 h1 _ (hw1.ext hk2) (by omega) HBS.out).mono ?_); rintro r w3 ⟨rfl, b3, st3, hw3⟩)
    have hz3 := st3.kept.size
    have hw2' := hw2.kept st3.kept ⟨by omega, by simp [Value.ownBlock]⟩ (fun b e => by simp [Value.ownBlock] at e)
    (go_wp2_with fail; (with_reducible refine (epoch_PutPos _ _ _ _ x h0 h1 _ hw2' (by omega) HBS.out).mono ?_); rintro r w4 ⟨rfl, b4, st4, hw4⟩)
    have hz4 := st4.kept.size
    have hw3' := hw3.kept st4.kept ⟨by omega, by simp [Value.ownBlock]⟩ (fun b e _ _ => by
      rcases st3.own with e' | ⟨k, e', hk⟩
      · rw [e'] at e; simp [Value.ownBlock] at e
      · rw [e'] at e; injection e with e; exact ⟨by omega, by simp [Value.ownBlock]⟩)
    rw [hr] at hw3'
    rw [hp] at hw4
    (go_wp2_with fail; (with_reducible refine (Writer_Bytes _ _ _ _ _ hw3' (by omega)).mono ?_); rintro r w5 ⟨v5, rfl, hown5, hk5⟩)
    have hz5 := hk5.size
    (go_wp2_with fail; (with_reducible refine (Writer_Bytes _ _ _ _ _ (hw4.ext hk5) (by omega)).mono ?_); rintro r w6 ⟨v6, rfl, hown6, hk6⟩)
    have hz6 := hk6.size
    have b6 : Below w.heap.size w w6 := ((((hk1.toBelow).trans (hk2.bel (by omega))).trans (st3.below (hw1.ext hk2) (by omega))).trans (((st4.below hw2' (by omega)).mono (by omega)).trans (hk5.bel (by omega)))).trans (hk6.bel (by omega))
    clear hw1 hw2 hw3 hw2' hw3' hw4 st3 st4 hk1 hk2
    (go_wp2_with fail; (with_reducible refine (ref17_Right x h0 _).mono ?_); rintro r w' ⟨rfl, rfl⟩)
    (go_wp2_with fail; (with_reducible refine (ref17_Pos x h0 _).mono ?_); rintro r w' ⟨rfl, rfl⟩)
  · rw [q2] at hown5 hown6
    (go_wp2_with fail; (with_reducible refine (ref04_Bytes 9 x h0 h1 (by omega) _).mono ?_); rintro r w7 ⟨v7, rfl, hown7, hk7⟩)
    have hz7 := hk7.size
    (go_wp2_with fail; (with_reducible refine (ref02_Same v5 v7 _ _ _ _ _ (((hown5.ext hk6).ext hk7).rd (F := fun _ => True) (fun _ _ _ _ => trivial)) (hown7.rd (F := fun _ => True) (fun _ _ _ _ => trivial)) hby hby).mono ?_); rintro r w' ⟨rfl, rfl⟩)
    (go_wp2_with fail; (with_reducible refine (ref04_Bytes 9 x h0 h1 (by omega) _).mono ?_); rintro r w8 ⟨v8, rfl, hown8, hk8⟩)
    (go_wp2_with fail; (with_reducible refine (ref02_Same v6 v8 _ _ _ _ _ (((hown6.ext hk7).ext hk8).rd (F := fun _ => True) (fun _ _ _ _ => trivial)) (hown8.rd (F := fun _ => True) (fun _ _ _ _ => trivial)) hby hby).mono ?_); rintro r w' ⟨rfl, rfl⟩)
    (go_wp2_with fail; (with_reducible refine (law17_live _).mono ?_); rintro r w' ⟨rfl, rfl⟩)
    go_wp2
    go_ret
    exact ⟨rfl, (b6.trans (hk7.bel (by omega))).trans (hk8.bel (by omega))⟩
  · rw [q2] at hown6
    (go_wp2_with fail; (with_reducible refine (ref04_Bytes 9 x h0 h1 (by omega) _).mono ?_); rintro r w8 ⟨v8, rfl, hown8, hk8⟩)
    (go_wp2_with fail; (with_reducible refine (ref02_Same v6 v8 _ _ _ _ _ ((hown6.ext hk8).rd (F := fun _ => True) (fun _ _ _ _ => trivial)) (hown8.rd (F := fun _ => True) (fun _ _ _ _ => trivial)) hby hby).mono ?_); rintro r w' ⟨rfl, rfl⟩)
    (go_wp2_with fail; (with_reducible refine (law17_live _).mono ?_); rintro r w' ⟨rfl, rfl⟩)
    go_wp2
    go_ret
    exact ⟨rfl, b6.trans (hk8.bel (by omega))⟩
  · (go_wp2_with fail; (with_reducible refine (law17_live _).mono ?_); rintro r w' ⟨rfl, rfl⟩)
    go_wp2
    go_ret
    exact ⟨rfl, b6⟩

set_option maxRecDepth 100000 in
theorem EpochWrites_lifted (os : Os) (started : os.Started) (H : Type) (enc : TypeId × Value → H) :
    ReturnsInHanded {} Try.checked os 5 .any (Rows.epochWritesSpec.pre6 enc Try.prog Try.f5 Rows.epochWritesRow.domain false) (Rows.epochWritesSpec.post enc Try.prog Try.f5 false true false false) := by
  refine returnsInHanded_of_change (C := Try.checked) Try.own started (by kernel_rfl) Try.func5
    (ChangeSpec.witness6 (enc := enc) (C := Try.checked) false ⟨#[], #[.int .u64 0], []⟩ 8 (by kernel_rfl) (by kernel_rfl) (by kernel_rfl) (by kernel_rfl)) ?_
  intro W base args ds gs before hval0 hW hcnd _
  have hval : ∀ (j : Nat) t v, Try.f5.params[j]? = some t → args[j]? = some v → Value.okWide Try.prog W .any base t v := hval0
  have hW' := hW
  obtain ⟨p, q, hA0, hV, rfl, hfz, hnd⟩ := hW
  have hA : DataW.TrodAll enc Try.prog W 0 (fun _ => true) true Try.f5.params.toList args.toList ds p := hA0
  rw [Try.params5] at hA hval
  obtain ⟨v0, vs0, d0, ds0, p0, q0, hargs, rfl, rfl, h0, r0⟩ := trodAll_cons hA
  obtain ⟨rfl, rfl, rfl⟩ := trodAll_nil r0
  obtain ⟨al⟩ := args
  simp only at hargs
  subst hargs
  obtain ⟨rfl, rfl⟩ := trodVars_none hV
  obtain ⟨x, rfl, rfl, rfl, wx⟩ := open_int Try.underlying22 (hval 0 22 v0 rfl rfl) h0
  refine (law_EpochWrites x (u64_wf wx).1 (u64_wf wx).2 W).mono fun r W' ⟨he, hb⟩ => ?_
  subst he
  exact ⟨_, rfl, law_post Try.laidOut (fn := Try.f5) hW' rfl (by kernel_rfl) _ Try.underlying4 rfl rfl hb⟩
theorem EpochWrites_holds : Rows.EpochWritesSaid :=
  OpenClaim.holds_of_wide 5 Try.f5 rfl rfl rfl rfl rfl rfl rfl ⟨rfl, rfl, rfl, rfl, rfl⟩ rfl rfl rfl rfl rfl CellEpochWrites.named Try.func5 CellEpochWrites.closed CellEpochWrites.inst CellEpochWrites.wrap
    (fun os started H enc _ => EpochWrites_lifted os started H enc)
#print axioms EpochWrites_holds
end Go.Proofs.Ytgphhganepjaiaa
