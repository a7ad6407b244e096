/-
  cursor.New and pen.New with the new block under a name; a skip to a place.
-/
import Derived.Test.YtgphhganepjaiaaRef04M
import Derived.Test.YtgphhganepjaiaaLiv04
namespace Go.Proofs.Ytgphhganepjaiaa
open Go.RowKit

theorem cursor_NewE (v : Value) (l : List Int) (F : Nat → Prop) (w : World) (h : RdI .u8 w F v l) (hl : Bys l) (hn : l.length ≤ 140737488355328) :
    Calls Try.prog 73 #[v] w fun r w' => ∃ g, g = w.heap.size ∧ r = .returned (ptr g) ∧ Ext w w' ∧ Rdr F w' g (RS.new l) ∧ g < w'.heap.size :=
  (cursor_New v l F w h hl hn).mono fun r w' h => ⟨_, rfl, h⟩
theorem pen_NewE (most : Int) (w : World) (h0 : -9223372036854775808 ≤ most) (h1 : most < 9223372036854775808) :
    Calls Try.prog 37 #[.int .i64 most] w fun r w' => ∃ g, g = w.heap.size ∧ r = .returned (ptr g) ∧ Ext w w' ∧ Wtr w' g g (.slice none 0 0) (WS.new most) ∧ g < w'.heap.size :=
  (pen_New most w h0 h1).mono fun r w' h => ⟨_, rfl, h⟩
theorem skip_new {l : List Int} {p : Int} (h0 : 0 ≤ p) (h1 : p ≤ l.length) : (RS.new l).skip p = (⟨l, p, 0, 0⟩, true) := by
  unfold RS.skip RS.new RS.left
  simp only [if_true]
  rw [if_neg (by omega), if_neg (by simp; omega)]
  simp
theorem ROk.at {l : List Int} {p : Int} (h0 : 0 ≤ p) (h1 : p ≤ l.length) (hb : Bys l) (hn : l.length ≤ 140737488355328) : ROk ⟨l, p, 0, 0⟩ := ⟨h0, h1, hn, hb⟩
/-- A reader stays where another reader turns. -/
theorem Rdr.other {B : Nat → Prop} {w w' : World} {g g' : Nat} {s : RS} (h : Rdr B w g s) (hk : Kept (· ≠ g') w w') (hg : g ≠ g') (hB : ∀ i, B i → i ≠ g') : Rdr B w' g s :=
  h.kept hk hg fun i _ _ hb => hB i hb
theorem Kept.reader {w w' w0 : World} {g' : Nat} (h : Ext w0 w) (hk : Kept (· ≠ g') w w') (hg : w0.heap.size ≤ g') : Ext w0 w' :=
  h.trans_ext (hk.mono fun i _ (hi : i < w0.heap.size) => by omega)
theorem vGet_split (l : List Int) : ∃ X N C Af, vGet l = (X, N, (C, Af)) := ⟨_, _, _, _, rfl⟩
end Go.Proofs.Ytgphhganepjaiaa
