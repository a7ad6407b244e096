/-
  No cell of these rows narrows 'for every input' (looked for: loops, veiled, ifaces, maps, wideKeys, modest, calm, conditions, laid).
  DERIVED. THE GIVEN ROWS OF THIS SEAT. 4 by the template 'for every input the law returns true; each argument reads behind the call as it read before'; 0 by the template 'total and deterministic' (their statements: YtnfagphepkeedaaGreatTotals.lean).
  GIVEN WITH THE SEED: the statements are not yours to turn. If you find one false, say at which input.
  Laid BY PROGRAM, IN A SANDBOX (cutbox-rows.mjs): the forced cells as the released guide's own fill.sh prints them over the translation 4213fd7b72d091bb… (all of the seat's roots in one cut). By AI agents, Wed Nov 11 2026. No macro, syntax, notation, axiom, sorry.
-/
import Derived.Test.YtnfagphepkeedaaGreatChecked
import GoSem.Claim
import GoSem.ClaimJoined
import GoSem.ClaimMapViews
import Derived.JoinedTies
import Derived.KernelRfl
namespace Go.Proofs.YtnfagphepkeedaaGreat
/- THE CELL 'sum', in the pinned program and in every row, IS THE sha256 OF THE DUMP (.gsa) THAT YtnfagphepkeedaaGreatProg.lean LOADS. Nothing in Lean hashes anything: it is a label: what it is worth is what the hold of that sum in a sandbox is worth. -/
noncomputable def Tryz.pinned : Pinned := { name := "ytnfagphepkeedaagreat", sum := "4213fd7b72d091bbaab1d9fd315f9326f12b9e7637b07994456272c3d4578ee3", checked := Tryz.checked }
namespace Rows
def none {H : Type} : Left H := { results := [], args := [] }

/-- 'tholepinlaw35.LegacyReads': WHATEVER THE INPUT: true; the input reads as it did. -/
def legacyReadsSpec : ChangeSpec := { name := "legacyReads", fn := fun _ => fun
  | [d] => { results := [.lit (.bool true)], args := [d] }
  | _ => none }
def legacyReadsRow : OpenClaim := { program := "ytnfagphepkeedaagreat", sum := "4213fd7b72d091bbaab1d9fd315f9326f12b9e7637b07994456272c3d4578ee3", func := "tholepin/tholepinlaw35.LegacyReads", spec := "legacyReads", unfollowed := true, recurses := true, apart := false }
def LegacyReadsSaid : Prop := legacyReadsRow.holds Tryz.pinned (OpenSpec.ofChange legacyReadsSpec)

/-- ITS FALSE NEIGHBOUR: 'it returns false'. Refute it at one input. -/
def legacyReadsWrong : ChangeSpec := { name := "legacyReads", fn := fun _ => fun
  | [d] => { results := [.lit (.bool false)], args := [d] }
  | _ => none }
def LegacyReadsWrongFalsely : Prop := legacyReadsRow.holds Tryz.pinned (OpenSpec.ofChange legacyReadsWrong)

/-- 'tholepinlaw35.LegacyOnes': WHATEVER THE INPUT: true; the input reads as it did. -/
def legacyOnesSpec : ChangeSpec := { name := "legacyOnes", fn := fun _ => fun
  | [d1, d2] => { results := [.lit (.bool true)], args := [d1, d2] }
  | _ => none }
def legacyOnesRow : OpenClaim := { program := "ytnfagphepkeedaagreat", sum := "4213fd7b72d091bbaab1d9fd315f9326f12b9e7637b07994456272c3d4578ee3", func := "tholepin/tholepinlaw35.LegacyOnes", spec := "legacyOnes", unfollowed := true, recurses := true, apart := false }
def LegacyOnesSaid : Prop := legacyOnesRow.holds Tryz.pinned (OpenSpec.ofChange legacyOnesSpec)

/-- ITS FALSE NEIGHBOUR: 'it returns false'. Refute it at one input. -/
def legacyOnesWrong : ChangeSpec := { name := "legacyOnes", fn := fun _ => fun
  | [d1, d2] => { results := [.lit (.bool false)], args := [d1, d2] }
  | _ => none }
def LegacyOnesWrongFalsely : Prop := legacyOnesRow.holds Tryz.pinned (OpenSpec.ofChange legacyOnesWrong)

/-- 'tholepinlaw35.LegacyOnce': WHATEVER THE INPUT: true; the input reads as it did. -/
def legacyOnceSpec : ChangeSpec := { name := "legacyOnce", fn := fun _ => fun
  | [d] => { results := [.lit (.bool true)], args := [d] }
  | _ => none }
def legacyOnceRow : OpenClaim := { program := "ytnfagphepkeedaagreat", sum := "4213fd7b72d091bbaab1d9fd315f9326f12b9e7637b07994456272c3d4578ee3", func := "tholepin/tholepinlaw35.LegacyOnce", spec := "legacyOnce", unfollowed := true, recurses := true, apart := false }
def LegacyOnceSaid : Prop := legacyOnceRow.holds Tryz.pinned (OpenSpec.ofChange legacyOnceSpec)

/-- ITS FALSE NEIGHBOUR: 'it returns false'. Refute it at one input. -/
def legacyOnceWrong : ChangeSpec := { name := "legacyOnce", fn := fun _ => fun
  | [d] => { results := [.lit (.bool false)], args := [d] }
  | _ => none }
def LegacyOnceWrongFalsely : Prop := legacyOnceRow.holds Tryz.pinned (OpenSpec.ofChange legacyOnceWrong)

/-- 'tholepinlaw35.LegacyTwos': WHATEVER THE INPUT: true; the input reads as it did. -/
def legacyTwosSpec : ChangeSpec := { name := "legacyTwos", fn := fun _ => fun
  | [d1, d2] => { results := [.lit (.bool true)], args := [d1, d2] }
  | _ => none }
def legacyTwosRow : OpenClaim := { program := "ytnfagphepkeedaagreat", sum := "4213fd7b72d091bbaab1d9fd315f9326f12b9e7637b07994456272c3d4578ee3", func := "tholepin/tholepinlaw35.LegacyTwos", spec := "legacyTwos", unfollowed := true, recurses := true, apart := false }
def LegacyTwosSaid : Prop := legacyTwosRow.holds Tryz.pinned (OpenSpec.ofChange legacyTwosSpec)

/-- ITS FALSE NEIGHBOUR: 'it returns false'. Refute it at one input. -/
def legacyTwosWrong : ChangeSpec := { name := "legacyTwos", fn := fun _ => fun
  | [d1, d2] => { results := [.lit (.bool false)], args := [d1, d2] }
  | _ => none }
def LegacyTwosWrongFalsely : Prop := legacyTwosRow.holds Tryz.pinned (OpenSpec.ofChange legacyTwosWrong)

/- THE SECOND FORM. 'bulk': how many values and letters a reading holds, each counted each time it is reached (what is shared counts as often as it is met; a slice's spare places count too). A statement '..UptoSaid' is the law's where the arguments, and the package variables that the reading takes, are together of bulk at most 1048576: NARROWER than '..Said'. Prove '..Said' where nothing that the law and all that it calls make is longer than what came in: it says more and counts as full. Else prove '..UptoSaid'. A law counts once. -/
mutual
def uptoBulk {H : Type} : DataW H → Nat
  | .lit (.string bytes) => bytes.length + 1
  | .lit _ => 1
  | .nil => 1
  | .ptr d => uptoBulk d + 1
  | .slice elems spare => uptoBulkAll elems + uptoBulkAll spare + 1
  | .agg parts => uptoBulkAll parts + 1
  | .iface _ d => uptoBulk d + 1
  | .map entries => uptoBulkEntries entries + 1
  | .held _ => 1
def uptoBulkAll {H : Type} : List (DataW H) → Nat
  | [] => 0
  | d :: r => uptoBulk d + uptoBulkAll r
def uptoBulkEntries {H : Type} : List (Lit × DataW H) → Nat
  | [] => 0
  | x :: r => uptoBulkEntry x + uptoBulkEntries r
def uptoBulkEntry {H : Type} : Lit × DataW H → Nat
  | (.string bytes, d) => bytes.length + uptoBulk d + 1
  | (_, d) => uptoBulk d + 1
 end
def uptoSmall : (H : Type) → List (DataW H) → Bool := fun _ ds => decide (uptoBulkAll ds ≤ 1048576)
def OpenSpec.upto (s : _root_.Go.ChangeSpec) : _root_.Go.OpenSpec := { _root_.Go.OpenSpec.ofChange s with cond := some uptoSmall }

/-- 'tholepinlaw35.LegacyReads', WHERE WHAT IT READS IS OF BULK AT MOST 1048576: true; the input reads as it did. -/
def legacyReadsUptoRow : OpenClaim := { program := "ytnfagphepkeedaagreat", sum := "4213fd7b72d091bbaab1d9fd315f9326f12b9e7637b07994456272c3d4578ee3", func := "tholepin/tholepinlaw35.LegacyReads", spec := "legacyReads", unfollowed := true, recurses := true, apart := false, narrowed := true }
def LegacyReadsUptoSaid : Prop := legacyReadsUptoRow.holds Tryz.pinned (OpenSpec.upto legacyReadsSpec)

/-- 'tholepinlaw35.LegacyOnes', WHERE WHAT IT READS IS OF BULK AT MOST 1048576: true; the input reads as it did. -/
def legacyOnesUptoRow : OpenClaim := { program := "ytnfagphepkeedaagreat", sum := "4213fd7b72d091bbaab1d9fd315f9326f12b9e7637b07994456272c3d4578ee3", func := "tholepin/tholepinlaw35.LegacyOnes", spec := "legacyOnes", unfollowed := true, recurses := true, apart := false, narrowed := true }
def LegacyOnesUptoSaid : Prop := legacyOnesUptoRow.holds Tryz.pinned (OpenSpec.upto legacyOnesSpec)

/-- 'tholepinlaw35.LegacyOnce', WHERE WHAT IT READS IS OF BULK AT MOST 1048576: true; the input reads as it did. -/
def legacyOnceUptoRow : OpenClaim := { program := "ytnfagphepkeedaagreat", sum := "4213fd7b72d091bbaab1d9fd315f9326f12b9e7637b07994456272c3d4578ee3", func := "tholepin/tholepinlaw35.LegacyOnce", spec := "legacyOnce", unfollowed := true, recurses := true, apart := false, narrowed := true }
def LegacyOnceUptoSaid : Prop := legacyOnceUptoRow.holds Tryz.pinned (OpenSpec.upto legacyOnceSpec)

/-- 'tholepinlaw35.LegacyTwos', WHERE WHAT IT READS IS OF BULK AT MOST 1048576: true; the input reads as it did. -/
def legacyTwosUptoRow : OpenClaim := { program := "ytnfagphepkeedaagreat", sum := "4213fd7b72d091bbaab1d9fd315f9326f12b9e7637b07994456272c3d4578ee3", func := "tholepin/tholepinlaw35.LegacyTwos", spec := "legacyTwos", unfollowed := true, recurses := true, apart := false, narrowed := true }
def LegacyTwosUptoSaid : Prop := legacyTwosUptoRow.holds Tryz.pinned (OpenSpec.upto legacyTwosSpec)

end Rows
end Go.Proofs.YtnfagphepkeedaaGreat
