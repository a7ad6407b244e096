/-
  No cell of these rows narrows 'for every input' (looked for: loops, veiled, ifaces, maps, wideKeys, modest, calm, conditions, laid).
  DERIVED. THE GIVEN ROWS OF THIS SEAT. 14 by the template 'for every input the law returns true; each argument reads behind the call as it read before'; 0 by the template 'total and deterministic' (their statements: YtpjkmidjjodplaaTotals.lean).
  GIVEN WITH THE SEED: the statements are not yours to turn. If you find one false, say at which input.
  Laid BY PROGRAM, IN A SANDBOX (cutbox-rows.mjs): the forced cells as the released guide's own fill.sh prints them over the translation fb871aab21c97a12… (all of the seat's roots in one cut). By AI agents, Wed Nov 11 2026. No macro, syntax, notation, axiom, sorry.
-/
import Derived.Test.YtpjkmidjjodplaaChecked
import GoSem.Claim
import GoSem.ClaimJoined
import GoSem.ClaimMapViews
import Derived.JoinedTies
import Derived.KernelRfl
namespace Go.Proofs.Ytpjkmidjjodplaa
/- THE CELL 'sum', in the pinned program and in every row, IS THE sha256 OF THE DUMP (.gsa) THAT YtpjkmidjjodplaaProg.lean LOADS. Nothing in Lean hashes anything: it is a label: what it is worth is what the hold of that sum in a sandbox is worth. -/
noncomputable def Try.pinned : Pinned := { name := "ytpjkmidjjodplaa", sum := "fb871aab21c97a124de538fc4346de8e17a2db92fe4a0c53ef8eb4a48f66b68f", checked := Try.checked }
namespace Rows
def none {H : Type} : Left H := { results := [], args := [] }

/-- 'tholepinlaw12.ExpandTokens': WHATEVER THE INPUT: true; the input reads as it did. -/
def expandTokensSpec : ChangeSpec := { name := "expandTokens", fn := fun _ => fun
  | [d1, d2] => { results := [.lit (.bool true)], args := [d1, d2] }
  | _ => none }
def expandTokensRow : OpenClaim := { program := "ytpjkmidjjodplaa", sum := "fb871aab21c97a124de538fc4346de8e17a2db92fe4a0c53ef8eb4a48f66b68f", func := "tholepin/tholepinlaw12.ExpandTokens", spec := "expandTokens", apart := false }
def ExpandTokensSaid : Prop := expandTokensRow.holds Try.pinned (OpenSpec.ofChange expandTokensSpec)

/-- ITS FALSE NEIGHBOUR: 'it returns false'. Refute it at one input. -/
def expandTokensWrong : ChangeSpec := { name := "expandTokens", fn := fun _ => fun
  | [d1, d2] => { results := [.lit (.bool false)], args := [d1, d2] }
  | _ => none }
def ExpandTokensWrongFalsely : Prop := expandTokensRow.holds Try.pinned (OpenSpec.ofChange expandTokensWrong)

/-- 'tholepinlaw12.ExpandOrigins': WHATEVER THE INPUT: true; the input reads as it did. -/
def expandOriginsSpec : ChangeSpec := { name := "expandOrigins", fn := fun _ => fun
  | [d] => { results := [.lit (.bool true)], args := [d] }
  | _ => none }
def expandOriginsRow : OpenClaim := { program := "ytpjkmidjjodplaa", sum := "fb871aab21c97a124de538fc4346de8e17a2db92fe4a0c53ef8eb4a48f66b68f", func := "tholepin/tholepinlaw12.ExpandOrigins", spec := "expandOrigins", apart := false }
def ExpandOriginsSaid : Prop := expandOriginsRow.holds Try.pinned (OpenSpec.ofChange expandOriginsSpec)

/-- ITS FALSE NEIGHBOUR: 'it returns false'. Refute it at one input. -/
def expandOriginsWrong : ChangeSpec := { name := "expandOrigins", fn := fun _ => fun
  | [d] => { results := [.lit (.bool false)], args := [d] }
  | _ => none }
def ExpandOriginsWrongFalsely : Prop := expandOriginsRow.holds Try.pinned (OpenSpec.ofChange expandOriginsWrong)

/-- 'tholepinlaw08.FrameWrites': WHATEVER THE INPUT: true; the input reads as it did. -/
def frameWritesSpec : ChangeSpec := { name := "frameWrites", fn := fun _ => fun
  | [d1, d2, d3] => { results := [.lit (.bool true)], args := [d1, d2, d3] }
  | _ => none }
def frameWritesRow : OpenClaim := { program := "ytpjkmidjjodplaa", sum := "fb871aab21c97a124de538fc4346de8e17a2db92fe4a0c53ef8eb4a48f66b68f", func := "tholepin/tholepinlaw08.FrameWrites", spec := "frameWrites", recurses := true, apart := false }
def FrameWritesSaid : Prop := frameWritesRow.holds Try.pinned (OpenSpec.ofChange frameWritesSpec)

/-- ITS FALSE NEIGHBOUR: 'it returns false'. Refute it at one input. -/
def frameWritesWrong : ChangeSpec := { name := "frameWrites", fn := fun _ => fun
  | [d1, d2, d3] => { results := [.lit (.bool false)], args := [d1, d2, d3] }
  | _ => none }
def FrameWritesWrongFalsely : Prop := frameWritesRow.holds Try.pinned (OpenSpec.ofChange frameWritesWrong)

/-- 'tholepinlaw11.TokenWrites': WHATEVER THE INPUT: true; the input reads as it did. -/
def tokenWritesSpec : ChangeSpec := { name := "tokenWrites", fn := fun _ => fun
  | [d1, d2] => { results := [.lit (.bool true)], args := [d1, d2] }
  | _ => none }
def tokenWritesRow : OpenClaim := { program := "ytpjkmidjjodplaa", sum := "fb871aab21c97a124de538fc4346de8e17a2db92fe4a0c53ef8eb4a48f66b68f", func := "tholepin/tholepinlaw11.TokenWrites", spec := "tokenWrites", unfollowed := true, recurses := true, apart := false }
def TokenWritesSaid : Prop := tokenWritesRow.holds Try.pinned (OpenSpec.ofChange tokenWritesSpec)

/-- ITS FALSE NEIGHBOUR: 'it returns false'. Refute it at one input. -/
def tokenWritesWrong : ChangeSpec := { name := "tokenWrites", fn := fun _ => fun
  | [d1, d2] => { results := [.lit (.bool false)], args := [d1, d2] }
  | _ => none }
def TokenWritesWrongFalsely : Prop := tokenWritesRow.holds Try.pinned (OpenSpec.ofChange tokenWritesWrong)

/-- 'tholepinlaw12.ExpandBound': WHATEVER THE INPUT: true; the input reads as it did. -/
def expandBoundSpec : ChangeSpec := { name := "expandBound", fn := fun _ => fun
  | [d1, d2] => { results := [.lit (.bool true)], args := [d1, d2] }
  | _ => none }
def expandBoundRow : OpenClaim := { program := "ytpjkmidjjodplaa", sum := "fb871aab21c97a124de538fc4346de8e17a2db92fe4a0c53ef8eb4a48f66b68f", func := "tholepin/tholepinlaw12.ExpandBound", spec := "expandBound", recurses := true, apart := false }
def ExpandBoundSaid : Prop := expandBoundRow.holds Try.pinned (OpenSpec.ofChange expandBoundSpec)

/-- ITS FALSE NEIGHBOUR: 'it returns false'. Refute it at one input. -/
def expandBoundWrong : ChangeSpec := { name := "expandBound", fn := fun _ => fun
  | [d1, d2] => { results := [.lit (.bool false)], args := [d1, d2] }
  | _ => none }
def ExpandBoundWrongFalsely : Prop := expandBoundRow.holds Try.pinned (OpenSpec.ofChange expandBoundWrong)

/-- 'tholepinlaw12.ExpandBytes': WHATEVER THE INPUT: true; the input reads as it did. -/
def expandBytesSpec : ChangeSpec := { name := "expandBytes", fn := fun _ => fun
  | [d1, d2] => { results := [.lit (.bool true)], args := [d1, d2] }
  | _ => none }
def expandBytesRow : OpenClaim := { program := "ytpjkmidjjodplaa", sum := "fb871aab21c97a124de538fc4346de8e17a2db92fe4a0c53ef8eb4a48f66b68f", func := "tholepin/tholepinlaw12.ExpandBytes", spec := "expandBytes", apart := false }
def ExpandBytesSaid : Prop := expandBytesRow.holds Try.pinned (OpenSpec.ofChange expandBytesSpec)

/-- ITS FALSE NEIGHBOUR: 'it returns false'. Refute it at one input. -/
def expandBytesWrong : ChangeSpec := { name := "expandBytes", fn := fun _ => fun
  | [d1, d2] => { results := [.lit (.bool false)], args := [d1, d2] }
  | _ => none }
def ExpandBytesWrongFalsely : Prop := expandBytesRow.holds Try.pinned (OpenSpec.ofChange expandBytesWrong)

/-- 'tholepinlaw11.TokenReads': WHATEVER THE INPUT: true; the input reads as it did. -/
def tokenReadsSpec : ChangeSpec := { name := "tokenReads", fn := fun _ => fun
  | [d] => { results := [.lit (.bool true)], args := [d] }
  | _ => none }
def tokenReadsRow : OpenClaim := { program := "ytpjkmidjjodplaa", sum := "fb871aab21c97a124de538fc4346de8e17a2db92fe4a0c53ef8eb4a48f66b68f", func := "tholepin/tholepinlaw11.TokenReads", spec := "tokenReads", apart := false }
def TokenReadsSaid : Prop := tokenReadsRow.holds Try.pinned (OpenSpec.ofChange tokenReadsSpec)

/-- ITS FALSE NEIGHBOUR: 'it returns false'. Refute it at one input. -/
def tokenReadsWrong : ChangeSpec := { name := "tokenReads", fn := fun _ => fun
  | [d] => { results := [.lit (.bool false)], args := [d] }
  | _ => none }
def TokenReadsWrongFalsely : Prop := tokenReadsRow.holds Try.pinned (OpenSpec.ofChange tokenReadsWrong)

/-- 'tholepinlaw11.TokenBack': WHATEVER THE INPUT: true; the input reads as it did. -/
def tokenBackSpec : ChangeSpec := { name := "tokenBack", fn := fun _ => fun
  | [d] => { results := [.lit (.bool true)], args := [d] }
  | _ => none }
def tokenBackRow : OpenClaim := { program := "ytpjkmidjjodplaa", sum := "fb871aab21c97a124de538fc4346de8e17a2db92fe4a0c53ef8eb4a48f66b68f", func := "tholepin/tholepinlaw11.TokenBack", spec := "tokenBack", apart := false }
def TokenBackSaid : Prop := tokenBackRow.holds Try.pinned (OpenSpec.ofChange tokenBackSpec)

/-- ITS FALSE NEIGHBOUR: 'it returns false'. Refute it at one input. -/
def tokenBackWrong : ChangeSpec := { name := "tokenBack", fn := fun _ => fun
  | [d] => { results := [.lit (.bool false)], args := [d] }
  | _ => none }
def TokenBackWrongFalsely : Prop := tokenBackRow.holds Try.pinned (OpenSpec.ofChange tokenBackWrong)

/-- 'tholepinlaw11.TokenOnce': WHATEVER THE INPUT: true; the input reads as it did. -/
def tokenOnceSpec : ChangeSpec := { name := "tokenOnce", fn := fun _ => fun
  | [d] => { results := [.lit (.bool true)], args := [d] }
  | _ => none }
def tokenOnceRow : OpenClaim := { program := "ytpjkmidjjodplaa", sum := "fb871aab21c97a124de538fc4346de8e17a2db92fe4a0c53ef8eb4a48f66b68f", func := "tholepin/tholepinlaw11.TokenOnce", spec := "tokenOnce", apart := false }
def TokenOnceSaid : Prop := tokenOnceRow.holds Try.pinned (OpenSpec.ofChange tokenOnceSpec)

/-- ITS FALSE NEIGHBOUR: 'it returns false'. Refute it at one input. -/
def tokenOnceWrong : ChangeSpec := { name := "tokenOnce", fn := fun _ => fun
  | [d] => { results := [.lit (.bool false)], args := [d] }
  | _ => none }
def TokenOnceWrongFalsely : Prop := tokenOnceRow.holds Try.pinned (OpenSpec.ofChange tokenOnceWrong)

/-- 'tholepinlaw08.FrameBack': WHATEVER THE INPUT: true; the input reads as it did. -/
def frameBackSpec : ChangeSpec := { name := "frameBack", fn := fun _ => fun
  | [d1, d2, d3] => { results := [.lit (.bool true)], args := [d1, d2, d3] }
  | _ => none }
def frameBackRow : OpenClaim := { program := "ytpjkmidjjodplaa", sum := "fb871aab21c97a124de538fc4346de8e17a2db92fe4a0c53ef8eb4a48f66b68f", func := "tholepin/tholepinlaw08.FrameBack", spec := "frameBack", unfollowed := true, recurses := true, apart := false }
def FrameBackSaid : Prop := frameBackRow.holds Try.pinned (OpenSpec.ofChange frameBackSpec)

/-- ITS FALSE NEIGHBOUR: 'it returns false'. Refute it at one input. -/
def frameBackWrong : ChangeSpec := { name := "frameBack", fn := fun _ => fun
  | [d1, d2, d3] => { results := [.lit (.bool false)], args := [d1, d2, d3] }
  | _ => none }
def FrameBackWrongFalsely : Prop := frameBackRow.holds Try.pinned (OpenSpec.ofChange frameBackWrong)

/-- 'tholepinlaw08.FrameTells': WHATEVER THE INPUT: true; the input reads as it did. -/
def frameTellsSpec : ChangeSpec := { name := "frameTells", fn := fun _ => fun
  | [d1, d2, d3] => { results := [.lit (.bool true)], args := [d1, d2, d3] }
  | _ => none }
def frameTellsRow : OpenClaim := { program := "ytpjkmidjjodplaa", sum := "fb871aab21c97a124de538fc4346de8e17a2db92fe4a0c53ef8eb4a48f66b68f", func := "tholepin/tholepinlaw08.FrameTells", spec := "frameTells", unfollowed := true, recurses := true, apart := false }
def FrameTellsSaid : Prop := frameTellsRow.holds Try.pinned (OpenSpec.ofChange frameTellsSpec)

/-- ITS FALSE NEIGHBOUR: 'it returns false'. Refute it at one input. -/
def frameTellsWrong : ChangeSpec := { name := "frameTells", fn := fun _ => fun
  | [d1, d2, d3] => { results := [.lit (.bool false)], args := [d1, d2, d3] }
  | _ => none }
def FrameTellsWrongFalsely : Prop := frameTellsRow.holds Try.pinned (OpenSpec.ofChange frameTellsWrong)

/-- 'tholepinlaw08.FrameReads': WHATEVER THE INPUT: true; the input reads as it did. -/
def frameReadsSpec : ChangeSpec := { name := "frameReads", fn := fun _ => fun
  | [d1, d2] => { results := [.lit (.bool true)], args := [d1, d2] }
  | _ => none }
def frameReadsRow : OpenClaim := { program := "ytpjkmidjjodplaa", sum := "fb871aab21c97a124de538fc4346de8e17a2db92fe4a0c53ef8eb4a48f66b68f", func := "tholepin/tholepinlaw08.FrameReads", spec := "frameReads", unfollowed := true, recurses := true, apart := false }
def FrameReadsSaid : Prop := frameReadsRow.holds Try.pinned (OpenSpec.ofChange frameReadsSpec)

/-- ITS FALSE NEIGHBOUR: 'it returns false'. Refute it at one input. -/
def frameReadsWrong : ChangeSpec := { name := "frameReads", fn := fun _ => fun
  | [d1, d2] => { results := [.lit (.bool false)], args := [d1, d2] }
  | _ => none }
def FrameReadsWrongFalsely : Prop := frameReadsRow.holds Try.pinned (OpenSpec.ofChange frameReadsWrong)

/-- 'tholepinlaw08.FrameScans': WHATEVER THE INPUT: true; the input reads as it did. -/
def frameScansSpec : ChangeSpec := { name := "frameScans", fn := fun _ => fun
  | [d1, d2, d3] => { results := [.lit (.bool true)], args := [d1, d2, d3] }
  | _ => none }
def frameScansRow : OpenClaim := { program := "ytpjkmidjjodplaa", sum := "fb871aab21c97a124de538fc4346de8e17a2db92fe4a0c53ef8eb4a48f66b68f", func := "tholepin/tholepinlaw08.FrameScans", spec := "frameScans", unfollowed := true, recurses := true, apart := false }
def FrameScansSaid : Prop := frameScansRow.holds Try.pinned (OpenSpec.ofChange frameScansSpec)

/-- ITS FALSE NEIGHBOUR: 'it returns false'. Refute it at one input. -/
def frameScansWrong : ChangeSpec := { name := "frameScans", fn := fun _ => fun
  | [d1, d2, d3] => { results := [.lit (.bool false)], args := [d1, d2, d3] }
  | _ => none }
def FrameScansWrongFalsely : Prop := frameScansRow.holds Try.pinned (OpenSpec.ofChange frameScansWrong)

/-- 'tholepinlaw08.FrameFinds': WHATEVER THE INPUT: true; the input reads as it did. -/
def frameFindsSpec : ChangeSpec := { name := "frameFinds", fn := fun _ => fun
  | [d1, d2] => { results := [.lit (.bool true)], args := [d1, d2] }
  | _ => none }
def frameFindsRow : OpenClaim := { program := "ytpjkmidjjodplaa", sum := "fb871aab21c97a124de538fc4346de8e17a2db92fe4a0c53ef8eb4a48f66b68f", func := "tholepin/tholepinlaw08.FrameFinds", spec := "frameFinds", unfollowed := true, recurses := true, apart := false }
def FrameFindsSaid : Prop := frameFindsRow.holds Try.pinned (OpenSpec.ofChange frameFindsSpec)

/-- ITS FALSE NEIGHBOUR: 'it returns false'. Refute it at one input. -/
def frameFindsWrong : ChangeSpec := { name := "frameFinds", fn := fun _ => fun
  | [d1, d2] => { results := [.lit (.bool false)], args := [d1, d2] }
  | _ => none }
def FrameFindsWrongFalsely : Prop := frameFindsRow.holds Try.pinned (OpenSpec.ofChange frameFindsWrong)

/- THE SECOND FORM. 'bulk': how many values and letters a reading holds, each counted each time it is reached (what is shared counts as often as it is met; a slice's spare places count too). A statement '..UptoSaid' is the law's where the arguments, and the package variables that the reading takes, are together of bulk at most 1048576: NARROWER than '..Said'. Prove '..Said' where nothing that the law and all that it calls make is longer than what came in: it says more and counts as full. Else prove '..UptoSaid'. A law counts once. -/
mutual
def uptoBulk {H : Type} : DataW H → Nat
  | .lit (.string bytes) => bytes.length + 1
  | .lit _ => 1
  | .nil => 1
  | .ptr d => uptoBulk d + 1
  | .slice elems spare => uptoBulkAll elems + uptoBulkAll spare + 1
  | .agg parts => uptoBulkAll parts + 1
  | .iface _ d => uptoBulk d + 1
  | .map entries => uptoBulkEntries entries + 1
  | .held _ => 1
def uptoBulkAll {H : Type} : List (DataW H) → Nat
  | [] => 0
  | d :: r => uptoBulk d + uptoBulkAll r
def uptoBulkEntries {H : Type} : List (Lit × DataW H) → Nat
  | [] => 0
  | x :: r => uptoBulkEntry x + uptoBulkEntries r
def uptoBulkEntry {H : Type} : Lit × DataW H → Nat
  | (.string bytes, d) => bytes.length + uptoBulk d + 1
  | (_, d) => uptoBulk d + 1
 end
def uptoSmall : (H : Type) → List (DataW H) → Bool := fun _ ds => decide (uptoBulkAll ds ≤ 1048576)
def OpenSpec.upto (s : _root_.Go.ChangeSpec) : _root_.Go.OpenSpec := { _root_.Go.OpenSpec.ofChange s with cond := some uptoSmall }

/-- 'tholepinlaw12.ExpandTokens', WHERE WHAT IT READS IS OF BULK AT MOST 1048576: true; the input reads as it did. -/
def expandTokensUptoRow : OpenClaim := { program := "ytpjkmidjjodplaa", sum := "fb871aab21c97a124de538fc4346de8e17a2db92fe4a0c53ef8eb4a48f66b68f", func := "tholepin/tholepinlaw12.ExpandTokens", spec := "expandTokens", apart := false, narrowed := true }
def ExpandTokensUptoSaid : Prop := expandTokensUptoRow.holds Try.pinned (OpenSpec.upto expandTokensSpec)

/-- 'tholepinlaw12.ExpandOrigins', WHERE WHAT IT READS IS OF BULK AT MOST 1048576: true; the input reads as it did. -/
def expandOriginsUptoRow : OpenClaim := { program := "ytpjkmidjjodplaa", sum := "fb871aab21c97a124de538fc4346de8e17a2db92fe4a0c53ef8eb4a48f66b68f", func := "tholepin/tholepinlaw12.ExpandOrigins", spec := "expandOrigins", apart := false, narrowed := true }
def ExpandOriginsUptoSaid : Prop := expandOriginsUptoRow.holds Try.pinned (OpenSpec.upto expandOriginsSpec)

/-- 'tholepinlaw08.FrameWrites', WHERE WHAT IT READS IS OF BULK AT MOST 1048576: true; the input reads as it did. -/
def frameWritesUptoRow : OpenClaim := { program := "ytpjkmidjjodplaa", sum := "fb871aab21c97a124de538fc4346de8e17a2db92fe4a0c53ef8eb4a48f66b68f", func := "tholepin/tholepinlaw08.FrameWrites", spec := "frameWrites", recurses := true, apart := false, narrowed := true }
def FrameWritesUptoSaid : Prop := frameWritesUptoRow.holds Try.pinned (OpenSpec.upto frameWritesSpec)

/-- 'tholepinlaw11.TokenWrites', WHERE WHAT IT READS IS OF BULK AT MOST 1048576: true; the input reads as it did. -/
def tokenWritesUptoRow : OpenClaim := { program := "ytpjkmidjjodplaa", sum := "fb871aab21c97a124de538fc4346de8e17a2db92fe4a0c53ef8eb4a48f66b68f", func := "tholepin/tholepinlaw11.TokenWrites", spec := "tokenWrites", unfollowed := true, recurses := true, apart := false, narrowed := true }
def TokenWritesUptoSaid : Prop := tokenWritesUptoRow.holds Try.pinned (OpenSpec.upto tokenWritesSpec)

/-- 'tholepinlaw12.ExpandBound', WHERE WHAT IT READS IS OF BULK AT MOST 1048576: true; the input reads as it did. -/
def expandBoundUptoRow : OpenClaim := { program := "ytpjkmidjjodplaa", sum := "fb871aab21c97a124de538fc4346de8e17a2db92fe4a0c53ef8eb4a48f66b68f", func := "tholepin/tholepinlaw12.ExpandBound", spec := "expandBound", recurses := true, apart := false, narrowed := true }
def ExpandBoundUptoSaid : Prop := expandBoundUptoRow.holds Try.pinned (OpenSpec.upto expandBoundSpec)

/-- 'tholepinlaw12.ExpandBytes', WHERE WHAT IT READS IS OF BULK AT MOST 1048576: true; the input reads as it did. -/
def expandBytesUptoRow : OpenClaim := { program := "ytpjkmidjjodplaa", sum := "fb871aab21c97a124de538fc4346de8e17a2db92fe4a0c53ef8eb4a48f66b68f", func := "tholepin/tholepinlaw12.ExpandBytes", spec := "expandBytes", apart := false, narrowed := true }
def ExpandBytesUptoSaid : Prop := expandBytesUptoRow.holds Try.pinned (OpenSpec.upto expandBytesSpec)

/-- 'tholepinlaw11.TokenReads', WHERE WHAT IT READS IS OF BULK AT MOST 1048576: true; the input reads as it did. -/
def tokenReadsUptoRow : OpenClaim := { program := "ytpjkmidjjodplaa", sum := "fb871aab21c97a124de538fc4346de8e17a2db92fe4a0c53ef8eb4a48f66b68f", func := "tholepin/tholepinlaw11.TokenReads", spec := "tokenReads", apart := false, narrowed := true }
def TokenReadsUptoSaid : Prop := tokenReadsUptoRow.holds Try.pinned (OpenSpec.upto tokenReadsSpec)

/-- 'tholepinlaw11.TokenBack', WHERE WHAT IT READS IS OF BULK AT MOST 1048576: true; the input reads as it did. -/
def tokenBackUptoRow : OpenClaim := { program := "ytpjkmidjjodplaa", sum := "fb871aab21c97a124de538fc4346de8e17a2db92fe4a0c53ef8eb4a48f66b68f", func := "tholepin/tholepinlaw11.TokenBack", spec := "tokenBack", apart := false, narrowed := true }
def TokenBackUptoSaid : Prop := tokenBackUptoRow.holds Try.pinned (OpenSpec.upto tokenBackSpec)

/-- 'tholepinlaw11.TokenOnce', WHERE WHAT IT READS IS OF BULK AT MOST 1048576: true; the input reads as it did. -/
def tokenOnceUptoRow : OpenClaim := { program := "ytpjkmidjjodplaa", sum := "fb871aab21c97a124de538fc4346de8e17a2db92fe4a0c53ef8eb4a48f66b68f", func := "tholepin/tholepinlaw11.TokenOnce", spec := "tokenOnce", apart := false, narrowed := true }
def TokenOnceUptoSaid : Prop := tokenOnceUptoRow.holds Try.pinned (OpenSpec.upto tokenOnceSpec)

/-- 'tholepinlaw08.FrameBack', WHERE WHAT IT READS IS OF BULK AT MOST 1048576: true; the input reads as it did. -/
def frameBackUptoRow : OpenClaim := { program := "ytpjkmidjjodplaa", sum := "fb871aab21c97a124de538fc4346de8e17a2db92fe4a0c53ef8eb4a48f66b68f", func := "tholepin/tholepinlaw08.FrameBack", spec := "frameBack", unfollowed := true, recurses := true, apart := false, narrowed := true }
def FrameBackUptoSaid : Prop := frameBackUptoRow.holds Try.pinned (OpenSpec.upto frameBackSpec)

/-- 'tholepinlaw08.FrameTells', WHERE WHAT IT READS IS OF BULK AT MOST 1048576: true; the input reads as it did. -/
def frameTellsUptoRow : OpenClaim := { program := "ytpjkmidjjodplaa", sum := "fb871aab21c97a124de538fc4346de8e17a2db92fe4a0c53ef8eb4a48f66b68f", func := "tholepin/tholepinlaw08.FrameTells", spec := "frameTells", unfollowed := true, recurses := true, apart := false, narrowed := true }
def FrameTellsUptoSaid : Prop := frameTellsUptoRow.holds Try.pinned (OpenSpec.upto frameTellsSpec)

/-- 'tholepinlaw08.FrameReads', WHERE WHAT IT READS IS OF BULK AT MOST 1048576: true; the input reads as it did. -/
def frameReadsUptoRow : OpenClaim := { program := "ytpjkmidjjodplaa", sum := "fb871aab21c97a124de538fc4346de8e17a2db92fe4a0c53ef8eb4a48f66b68f", func := "tholepin/tholepinlaw08.FrameReads", spec := "frameReads", unfollowed := true, recurses := true, apart := false, narrowed := true }
def FrameReadsUptoSaid : Prop := frameReadsUptoRow.holds Try.pinned (OpenSpec.upto frameReadsSpec)

/-- 'tholepinlaw08.FrameScans', WHERE WHAT IT READS IS OF BULK AT MOST 1048576: true; the input reads as it did. -/
def frameScansUptoRow : OpenClaim := { program := "ytpjkmidjjodplaa", sum := "fb871aab21c97a124de538fc4346de8e17a2db92fe4a0c53ef8eb4a48f66b68f", func := "tholepin/tholepinlaw08.FrameScans", spec := "frameScans", unfollowed := true, recurses := true, apart := false, narrowed := true }
def FrameScansUptoSaid : Prop := frameScansUptoRow.holds Try.pinned (OpenSpec.upto frameScansSpec)

/-- 'tholepinlaw08.FrameFinds', WHERE WHAT IT READS IS OF BULK AT MOST 1048576: true; the input reads as it did. -/
def frameFindsUptoRow : OpenClaim := { program := "ytpjkmidjjodplaa", sum := "fb871aab21c97a124de538fc4346de8e17a2db92fe4a0c53ef8eb4a48f66b68f", func := "tholepin/tholepinlaw08.FrameFinds", spec := "frameFinds", unfollowed := true, recurses := true, apart := false, narrowed := true }
def FrameFindsUptoSaid : Prop := frameFindsUptoRow.holds Try.pinned (OpenSpec.upto frameFindsSpec)

end Rows
end Go.Proofs.Ytpjkmidjjodplaa
