/-
  No cell of these rows narrows 'for every input' (looked for: loops, veiled, ifaces, maps, wideKeys, modest, calm, conditions, laid).
  DERIVED. THE GIVEN ROWS OF THIS SEAT. 25 by the template 'for every input the law returns true; each argument reads behind the call as it read before'; 0 by the template 'total and deterministic' (their statements: YtgphhganepjaiaaTotals.lean).
  GIVEN WITH THE SEED: the statements are not yours to turn. If you find one false, say at which input.
  Laid BY PROGRAM, IN A SANDBOX (cutbox-rows.mjs): the forced cells as the released guide's own fill.sh prints them over the translation f601d9bdc4907fb5… (all of the seat's roots in one cut). By AI agents, Wed Nov 11 2026. No macro, syntax, notation, axiom, sorry.
-/
import Derived.Test.YtgphhganepjaiaaChecked
import GoSem.Claim
import GoSem.ClaimJoined
import GoSem.ClaimMapViews
import Derived.JoinedTies
import Derived.KernelRfl
namespace Go.Proofs.Ytgphhganepjaiaa
/- THE CELL 'sum', in the pinned program and in every row, IS THE sha256 OF THE DUMP (.gsa) THAT YtgphhganepjaiaaProg.lean LOADS. Nothing in Lean hashes anything: it is a label: what it is worth is what the hold of that sum in a sandbox is worth. -/
noncomputable def Try.pinned : Pinned := { name := "ytgphhganepjaiaa", sum := "f601d9bdc4907fb5aaa0966331b9f85fc576315782c5eec988963e42ffe105ce", checked := Try.checked }
namespace Rows
def none {H : Type} : Left H := { results := [], args := [] }

/-- 'tholepinlaw17.EpochAdmits': WHATEVER THE INPUT: true; the input reads as it did. -/
def epochAdmitsSpec : ChangeSpec := { name := "epochAdmits", fn := fun _ => fun
  | [d1, d2, d3] => { results := [.lit (.bool true)], args := [d1, d2, d3] }
  | _ => none }
def epochAdmitsRow : OpenClaim := { program := "ytgphhganepjaiaa", sum := "f601d9bdc4907fb5aaa0966331b9f85fc576315782c5eec988963e42ffe105ce", func := "tholepin/tholepinlaw17.EpochAdmits", spec := "epochAdmits", apart := false }
def EpochAdmitsSaid : Prop := epochAdmitsRow.holds Try.pinned (OpenSpec.ofChange epochAdmitsSpec)

/-- ITS FALSE NEIGHBOUR: 'it returns false'. Refute it at one input. -/
def epochAdmitsWrong : ChangeSpec := { name := "epochAdmits", fn := fun _ => fun
  | [d1, d2, d3] => { results := [.lit (.bool false)], args := [d1, d2, d3] }
  | _ => none }
def EpochAdmitsWrongFalsely : Prop := epochAdmitsRow.holds Try.pinned (OpenSpec.ofChange epochAdmitsWrong)

/-- 'tholepinlaw17.EpochNext': WHATEVER THE INPUT: true; the input reads as it did. -/
def epochNextSpec : ChangeSpec := { name := "epochNext", fn := fun _ => fun
  | [d1, d2] => { results := [.lit (.bool true)], args := [d1, d2] }
  | _ => none }
def epochNextRow : OpenClaim := { program := "ytgphhganepjaiaa", sum := "f601d9bdc4907fb5aaa0966331b9f85fc576315782c5eec988963e42ffe105ce", func := "tholepin/tholepinlaw17.EpochNext", spec := "epochNext", apart := false }
def EpochNextSaid : Prop := epochNextRow.holds Try.pinned (OpenSpec.ofChange epochNextSpec)

/-- ITS FALSE NEIGHBOUR: 'it returns false'. Refute it at one input. -/
def epochNextWrong : ChangeSpec := { name := "epochNext", fn := fun _ => fun
  | [d1, d2] => { results := [.lit (.bool false)], args := [d1, d2] }
  | _ => none }
def EpochNextWrongFalsely : Prop := epochNextRow.holds Try.pinned (OpenSpec.ofChange epochNextWrong)

/-- 'tholepinlaw17.EpochWrites': WHATEVER THE INPUT: true; the input reads as it did. -/
def epochWritesSpec : ChangeSpec := { name := "epochWrites", fn := fun _ => fun
  | [d] => { results := [.lit (.bool true)], args := [d] }
  | _ => none }
def epochWritesRow : OpenClaim := { program := "ytgphhganepjaiaa", sum := "f601d9bdc4907fb5aaa0966331b9f85fc576315782c5eec988963e42ffe105ce", func := "tholepin/tholepinlaw17.EpochWrites", spec := "epochWrites", recurses := true, apart := false }
def EpochWritesSaid : Prop := epochWritesRow.holds Try.pinned (OpenSpec.ofChange epochWritesSpec)

/-- ITS FALSE NEIGHBOUR: 'it returns false'. Refute it at one input. -/
def epochWritesWrong : ChangeSpec := { name := "epochWrites", fn := fun _ => fun
  | [d] => { results := [.lit (.bool false)], args := [d] }
  | _ => none }
def EpochWritesWrongFalsely : Prop := epochWritesRow.holds Try.pinned (OpenSpec.ofChange epochWritesWrong)

/-- 'tholepinlaw06.BlobWrites': WHATEVER THE INPUT: true; the input reads as it did. -/
def blobWritesSpec : ChangeSpec := { name := "blobWrites", fn := fun _ => fun
  | [d1, d2, d3] => { results := [.lit (.bool true)], args := [d1, d2, d3] }
  | _ => none }
def blobWritesRow : OpenClaim := { program := "ytgphhganepjaiaa", sum := "f601d9bdc4907fb5aaa0966331b9f85fc576315782c5eec988963e42ffe105ce", func := "tholepin/tholepinlaw06.BlobWrites", spec := "blobWrites", recurses := true, apart := false }
def BlobWritesSaid : Prop := blobWritesRow.holds Try.pinned (OpenSpec.ofChange blobWritesSpec)

/-- ITS FALSE NEIGHBOUR: 'it returns false'. Refute it at one input. -/
def blobWritesWrong : ChangeSpec := { name := "blobWrites", fn := fun _ => fun
  | [d1, d2, d3] => { results := [.lit (.bool false)], args := [d1, d2, d3] }
  | _ => none }
def BlobWritesWrongFalsely : Prop := blobWritesRow.holds Try.pinned (OpenSpec.ofChange blobWritesWrong)

/-- 'tholepinlaw22.DeltaMoves': WHATEVER THE INPUT: true; the input reads as it did. -/
def deltaMovesSpec : ChangeSpec := { name := "deltaMoves", fn := fun _ => fun
  | [d1, d2, d3] => { results := [.lit (.bool true)], args := [d1, d2, d3] }
  | _ => none }
def deltaMovesRow : OpenClaim := { program := "ytgphhganepjaiaa", sum := "f601d9bdc4907fb5aaa0966331b9f85fc576315782c5eec988963e42ffe105ce", func := "tholepin/tholepinlaw22.DeltaMoves", spec := "deltaMoves", apart := false }
def DeltaMovesSaid : Prop := deltaMovesRow.holds Try.pinned (OpenSpec.ofChange deltaMovesSpec)

/-- ITS FALSE NEIGHBOUR: 'it returns false'. Refute it at one input. -/
def deltaMovesWrong : ChangeSpec := { name := "deltaMoves", fn := fun _ => fun
  | [d1, d2, d3] => { results := [.lit (.bool false)], args := [d1, d2, d3] }
  | _ => none }
def DeltaMovesWrongFalsely : Prop := deltaMovesRow.holds Try.pinned (OpenSpec.ofChange deltaMovesWrong)

/-- 'tholepinlaw22.DeltaTells': WHATEVER THE INPUT: true; the input reads as it did. -/
def deltaTellsSpec : ChangeSpec := { name := "deltaTells", fn := fun _ => fun
  | [d1, d2, d3] => { results := [.lit (.bool true)], args := [d1, d2, d3] }
  | _ => none }
def deltaTellsRow : OpenClaim := { program := "ytgphhganepjaiaa", sum := "f601d9bdc4907fb5aaa0966331b9f85fc576315782c5eec988963e42ffe105ce", func := "tholepin/tholepinlaw22.DeltaTells", spec := "deltaTells", apart := false }
def DeltaTellsSaid : Prop := deltaTellsRow.holds Try.pinned (OpenSpec.ofChange deltaTellsSpec)

/-- ITS FALSE NEIGHBOUR: 'it returns false'. Refute it at one input. -/
def deltaTellsWrong : ChangeSpec := { name := "deltaTells", fn := fun _ => fun
  | [d1, d2, d3] => { results := [.lit (.bool false)], args := [d1, d2, d3] }
  | _ => none }
def DeltaTellsWrongFalsely : Prop := deltaTellsRow.holds Try.pinned (OpenSpec.ofChange deltaTellsWrong)

/-- 'tholepinlaw05.ZigzagRises': WHATEVER THE INPUT: true; the input reads as it did. -/
def zigzagRisesSpec : ChangeSpec := { name := "zigzagRises", fn := fun _ => fun
  | [d] => { results := [.lit (.bool true)], args := [d] }
  | _ => none }
def zigzagRisesRow : OpenClaim := { program := "ytgphhganepjaiaa", sum := "f601d9bdc4907fb5aaa0966331b9f85fc576315782c5eec988963e42ffe105ce", func := "tholepin/tholepinlaw05.ZigzagRises", spec := "zigzagRises", recurses := true, apart := false }
def ZigzagRisesSaid : Prop := zigzagRisesRow.holds Try.pinned (OpenSpec.ofChange zigzagRisesSpec)

/-- ITS FALSE NEIGHBOUR: 'it returns false'. Refute it at one input. -/
def zigzagRisesWrong : ChangeSpec := { name := "zigzagRises", fn := fun _ => fun
  | [d] => { results := [.lit (.bool false)], args := [d] }
  | _ => none }
def ZigzagRisesWrongFalsely : Prop := zigzagRisesRow.holds Try.pinned (OpenSpec.ofChange zigzagRisesWrong)

/-- 'tholepinlaw04.VarintOnce': WHATEVER THE INPUT: true; the input reads as it did. -/
def varintOnceSpec : ChangeSpec := { name := "varintOnce", fn := fun _ => fun
  | [d] => { results := [.lit (.bool true)], args := [d] }
  | _ => none }
def varintOnceRow : OpenClaim := { program := "ytgphhganepjaiaa", sum := "f601d9bdc4907fb5aaa0966331b9f85fc576315782c5eec988963e42ffe105ce", func := "tholepin/tholepinlaw04.VarintOnce", spec := "varintOnce", apart := false }
def VarintOnceSaid : Prop := varintOnceRow.holds Try.pinned (OpenSpec.ofChange varintOnceSpec)

/-- ITS FALSE NEIGHBOUR: 'it returns false'. Refute it at one input. -/
def varintOnceWrong : ChangeSpec := { name := "varintOnce", fn := fun _ => fun
  | [d] => { results := [.lit (.bool false)], args := [d] }
  | _ => none }
def VarintOnceWrongFalsely : Prop := varintOnceRow.holds Try.pinned (OpenSpec.ofChange varintOnceWrong)

/-- 'tholepinlaw32.IndexEnds': WHATEVER THE INPUT: true; the input reads as it did. -/
def indexEndsSpec : ChangeSpec := { name := "indexEnds", fn := fun _ => fun
  | [d] => { results := [.lit (.bool true)], args := [d] }
  | _ => none }
def indexEndsRow : OpenClaim := { program := "ytgphhganepjaiaa", sum := "f601d9bdc4907fb5aaa0966331b9f85fc576315782c5eec988963e42ffe105ce", func := "tholepin/tholepinlaw32.IndexEnds", spec := "indexEnds", apart := false }
def IndexEndsSaid : Prop := indexEndsRow.holds Try.pinned (OpenSpec.ofChange indexEndsSpec)

/-- ITS FALSE NEIGHBOUR: 'it returns false'. Refute it at one input. -/
def indexEndsWrong : ChangeSpec := { name := "indexEnds", fn := fun _ => fun
  | [d] => { results := [.lit (.bool false)], args := [d] }
  | _ => none }
def IndexEndsWrongFalsely : Prop := indexEndsRow.holds Try.pinned (OpenSpec.ofChange indexEndsWrong)

/-- 'tholepinlaw32.IndexFinds': WHATEVER THE INPUT: true; the input reads as it did. -/
def indexFindsSpec : ChangeSpec := { name := "indexFinds", fn := fun _ => fun
  | [d1, d2] => { results := [.lit (.bool true)], args := [d1, d2] }
  | _ => none }
def indexFindsRow : OpenClaim := { program := "ytgphhganepjaiaa", sum := "f601d9bdc4907fb5aaa0966331b9f85fc576315782c5eec988963e42ffe105ce", func := "tholepin/tholepinlaw32.IndexFinds", spec := "indexFinds", apart := false }
def IndexFindsSaid : Prop := indexFindsRow.holds Try.pinned (OpenSpec.ofChange indexFindsSpec)

/-- ITS FALSE NEIGHBOUR: 'it returns false'. Refute it at one input. -/
def indexFindsWrong : ChangeSpec := { name := "indexFinds", fn := fun _ => fun
  | [d1, d2] => { results := [.lit (.bool false)], args := [d1, d2] }
  | _ => none }
def IndexFindsWrongFalsely : Prop := indexFindsRow.holds Try.pinned (OpenSpec.ofChange indexFindsWrong)

/-- 'tholepinlaw04.VarintBack': WHATEVER THE INPUT: true; the input reads as it did. -/
def varintBackSpec : ChangeSpec := { name := "varintBack", fn := fun _ => fun
  | [d1, d2, d3] => { results := [.lit (.bool true)], args := [d1, d2, d3] }
  | _ => none }
def varintBackRow : OpenClaim := { program := "ytgphhganepjaiaa", sum := "f601d9bdc4907fb5aaa0966331b9f85fc576315782c5eec988963e42ffe105ce", func := "tholepin/tholepinlaw04.VarintBack", spec := "varintBack", apart := false }
def VarintBackSaid : Prop := varintBackRow.holds Try.pinned (OpenSpec.ofChange varintBackSpec)

/-- ITS FALSE NEIGHBOUR: 'it returns false'. Refute it at one input. -/
def varintBackWrong : ChangeSpec := { name := "varintBack", fn := fun _ => fun
  | [d1, d2, d3] => { results := [.lit (.bool false)], args := [d1, d2, d3] }
  | _ => none }
def VarintBackWrongFalsely : Prop := varintBackRow.holds Try.pinned (OpenSpec.ofChange varintBackWrong)

/-- 'tholepinlaw17.EpochReads': WHATEVER THE INPUT: true; the input reads as it did. -/
def epochReadsSpec : ChangeSpec := { name := "epochReads", fn := fun _ => fun
  | [d] => { results := [.lit (.bool true)], args := [d] }
  | _ => none }
def epochReadsRow : OpenClaim := { program := "ytgphhganepjaiaa", sum := "f601d9bdc4907fb5aaa0966331b9f85fc576315782c5eec988963e42ffe105ce", func := "tholepin/tholepinlaw17.EpochReads", spec := "epochReads", unfollowed := true, recurses := true, apart := false }
def EpochReadsSaid : Prop := epochReadsRow.holds Try.pinned (OpenSpec.ofChange epochReadsSpec)

/-- ITS FALSE NEIGHBOUR: 'it returns false'. Refute it at one input. -/
def epochReadsWrong : ChangeSpec := { name := "epochReads", fn := fun _ => fun
  | [d] => { results := [.lit (.bool false)], args := [d] }
  | _ => none }
def EpochReadsWrongFalsely : Prop := epochReadsRow.holds Try.pinned (OpenSpec.ofChange epochReadsWrong)

/-- 'tholepinlaw04.VarintReads': WHATEVER THE INPUT: true; the input reads as it did. -/
def varintReadsSpec : ChangeSpec := { name := "varintReads", fn := fun _ => fun
  | [d1, d2, d3] => { results := [.lit (.bool true)], args := [d1, d2, d3] }
  | _ => none }
def varintReadsRow : OpenClaim := { program := "ytgphhganepjaiaa", sum := "f601d9bdc4907fb5aaa0966331b9f85fc576315782c5eec988963e42ffe105ce", func := "tholepin/tholepinlaw04.VarintReads", spec := "varintReads", apart := false }
def VarintReadsSaid : Prop := varintReadsRow.holds Try.pinned (OpenSpec.ofChange varintReadsSpec)

/-- ITS FALSE NEIGHBOUR: 'it returns false'. Refute it at one input. -/
def varintReadsWrong : ChangeSpec := { name := "varintReads", fn := fun _ => fun
  | [d1, d2, d3] => { results := [.lit (.bool false)], args := [d1, d2, d3] }
  | _ => none }
def VarintReadsWrongFalsely : Prop := varintReadsRow.holds Try.pinned (OpenSpec.ofChange varintReadsWrong)

/-- 'tholepinlaw32.IndexGaps': WHATEVER THE INPUT: true; the input reads as it did. -/
def indexGapsSpec : ChangeSpec := { name := "indexGaps", fn := fun _ => fun
  | [d1, d2] => { results := [.lit (.bool true)], args := [d1, d2] }
  | _ => none }
def indexGapsRow : OpenClaim := { program := "ytgphhganepjaiaa", sum := "f601d9bdc4907fb5aaa0966331b9f85fc576315782c5eec988963e42ffe105ce", func := "tholepin/tholepinlaw32.IndexGaps", spec := "indexGaps", unfollowed := true, recurses := true, apart := false }
def IndexGapsSaid : Prop := indexGapsRow.holds Try.pinned (OpenSpec.ofChange indexGapsSpec)

/-- ITS FALSE NEIGHBOUR: 'it returns false'. Refute it at one input. -/
def indexGapsWrong : ChangeSpec := { name := "indexGaps", fn := fun _ => fun
  | [d1, d2] => { results := [.lit (.bool false)], args := [d1, d2] }
  | _ => none }
def IndexGapsWrongFalsely : Prop := indexGapsRow.holds Try.pinned (OpenSpec.ofChange indexGapsWrong)

/-- 'tholepinlaw04.VarintWrites': WHATEVER THE INPUT: true; the input reads as it did. -/
def varintWritesSpec : ChangeSpec := { name := "varintWrites", fn := fun _ => fun
  | [d1, d2, d3] => { results := [.lit (.bool true)], args := [d1, d2, d3] }
  | _ => none }
def varintWritesRow : OpenClaim := { program := "ytgphhganepjaiaa", sum := "f601d9bdc4907fb5aaa0966331b9f85fc576315782c5eec988963e42ffe105ce", func := "tholepin/tholepinlaw04.VarintWrites", spec := "varintWrites", recurses := true, apart := false }
def VarintWritesSaid : Prop := varintWritesRow.holds Try.pinned (OpenSpec.ofChange varintWritesSpec)

/-- ITS FALSE NEIGHBOUR: 'it returns false'. Refute it at one input. -/
def varintWritesWrong : ChangeSpec := { name := "varintWrites", fn := fun _ => fun
  | [d1, d2, d3] => { results := [.lit (.bool false)], args := [d1, d2, d3] }
  | _ => none }
def VarintWritesWrongFalsely : Prop := varintWritesRow.holds Try.pinned (OpenSpec.ofChange varintWritesWrong)

/-- 'tholepinlaw05.ZigzagSigns': WHATEVER THE INPUT: true; the input reads as it did. -/
def zigzagSignsSpec : ChangeSpec := { name := "zigzagSigns", fn := fun _ => fun
  | [d1, d2, d3] => { results := [.lit (.bool true)], args := [d1, d2, d3] }
  | _ => none }
def zigzagSignsRow : OpenClaim := { program := "ytgphhganepjaiaa", sum := "f601d9bdc4907fb5aaa0966331b9f85fc576315782c5eec988963e42ffe105ce", func := "tholepin/tholepinlaw05.ZigzagSigns", spec := "zigzagSigns", recurses := true, apart := false }
def ZigzagSignsSaid : Prop := zigzagSignsRow.holds Try.pinned (OpenSpec.ofChange zigzagSignsSpec)

/-- ITS FALSE NEIGHBOUR: 'it returns false'. Refute it at one input. -/
def zigzagSignsWrong : ChangeSpec := { name := "zigzagSigns", fn := fun _ => fun
  | [d1, d2, d3] => { results := [.lit (.bool false)], args := [d1, d2, d3] }
  | _ => none }
def ZigzagSignsWrongFalsely : Prop := zigzagSignsRow.holds Try.pinned (OpenSpec.ofChange zigzagSignsWrong)

/-- 'tholepinlaw05.ZigzagReads': WHATEVER THE INPUT: true; the input reads as it did. -/
def zigzagReadsSpec : ChangeSpec := { name := "zigzagReads", fn := fun _ => fun
  | [d1, d2] => { results := [.lit (.bool true)], args := [d1, d2] }
  | _ => none }
def zigzagReadsRow : OpenClaim := { program := "ytgphhganepjaiaa", sum := "f601d9bdc4907fb5aaa0966331b9f85fc576315782c5eec988963e42ffe105ce", func := "tholepin/tholepinlaw05.ZigzagReads", spec := "zigzagReads", apart := false }
def ZigzagReadsSaid : Prop := zigzagReadsRow.holds Try.pinned (OpenSpec.ofChange zigzagReadsSpec)

/-- ITS FALSE NEIGHBOUR: 'it returns false'. Refute it at one input. -/
def zigzagReadsWrong : ChangeSpec := { name := "zigzagReads", fn := fun _ => fun
  | [d1, d2] => { results := [.lit (.bool false)], args := [d1, d2] }
  | _ => none }
def ZigzagReadsWrongFalsely : Prop := zigzagReadsRow.holds Try.pinned (OpenSpec.ofChange zigzagReadsWrong)

/-- 'tholepinlaw06.BlobOnce': WHATEVER THE INPUT: true; the input reads as it did. -/
def blobOnceSpec : ChangeSpec := { name := "blobOnce", fn := fun _ => fun
  | [d] => { results := [.lit (.bool true)], args := [d] }
  | _ => none }
def blobOnceRow : OpenClaim := { program := "ytgphhganepjaiaa", sum := "f601d9bdc4907fb5aaa0966331b9f85fc576315782c5eec988963e42ffe105ce", func := "tholepin/tholepinlaw06.BlobOnce", spec := "blobOnce", recurses := true, apart := false }
def BlobOnceSaid : Prop := blobOnceRow.holds Try.pinned (OpenSpec.ofChange blobOnceSpec)

/-- ITS FALSE NEIGHBOUR: 'it returns false'. Refute it at one input. -/
def blobOnceWrong : ChangeSpec := { name := "blobOnce", fn := fun _ => fun
  | [d] => { results := [.lit (.bool false)], args := [d] }
  | _ => none }
def BlobOnceWrongFalsely : Prop := blobOnceRow.holds Try.pinned (OpenSpec.ofChange blobOnceWrong)

/-- 'tholepinlaw22.DeltaReads': WHATEVER THE INPUT: true; the input reads as it did. -/
def deltaReadsSpec : ChangeSpec := { name := "deltaReads", fn := fun _ => fun
  | [d1, d2, d3] => { results := [.lit (.bool true)], args := [d1, d2, d3] }
  | _ => none }
def deltaReadsRow : OpenClaim := { program := "ytgphhganepjaiaa", sum := "f601d9bdc4907fb5aaa0966331b9f85fc576315782c5eec988963e42ffe105ce", func := "tholepin/tholepinlaw22.DeltaReads", spec := "deltaReads", recurses := true, apart := false }
def DeltaReadsSaid : Prop := deltaReadsRow.holds Try.pinned (OpenSpec.ofChange deltaReadsSpec)

/-- ITS FALSE NEIGHBOUR: 'it returns false'. Refute it at one input. -/
def deltaReadsWrong : ChangeSpec := { name := "deltaReads", fn := fun _ => fun
  | [d1, d2, d3] => { results := [.lit (.bool false)], args := [d1, d2, d3] }
  | _ => none }
def DeltaReadsWrongFalsely : Prop := deltaReadsRow.holds Try.pinned (OpenSpec.ofChange deltaReadsWrong)

/-- 'tholepinlaw05.ZigzagBack': WHATEVER THE INPUT: true; the input reads as it did. -/
def zigzagBackSpec : ChangeSpec := { name := "zigzagBack", fn := fun _ => fun
  | [d1, d2, d3] => { results := [.lit (.bool true)], args := [d1, d2, d3] }
  | _ => none }
def zigzagBackRow : OpenClaim := { program := "ytgphhganepjaiaa", sum := "f601d9bdc4907fb5aaa0966331b9f85fc576315782c5eec988963e42ffe105ce", func := "tholepin/tholepinlaw05.ZigzagBack", spec := "zigzagBack", recurses := true, apart := false }
def ZigzagBackSaid : Prop := zigzagBackRow.holds Try.pinned (OpenSpec.ofChange zigzagBackSpec)

/-- ITS FALSE NEIGHBOUR: 'it returns false'. Refute it at one input. -/
def zigzagBackWrong : ChangeSpec := { name := "zigzagBack", fn := fun _ => fun
  | [d1, d2, d3] => { results := [.lit (.bool false)], args := [d1, d2, d3] }
  | _ => none }
def ZigzagBackWrongFalsely : Prop := zigzagBackRow.holds Try.pinned (OpenSpec.ofChange zigzagBackWrong)

/-- 'tholepinlaw06.BlobReads': WHATEVER THE INPUT: true; the input reads as it did. -/
def blobReadsSpec : ChangeSpec := { name := "blobReads", fn := fun _ => fun
  | [d1, d2, d3] => { results := [.lit (.bool true)], args := [d1, d2, d3] }
  | _ => none }
def blobReadsRow : OpenClaim := { program := "ytgphhganepjaiaa", sum := "f601d9bdc4907fb5aaa0966331b9f85fc576315782c5eec988963e42ffe105ce", func := "tholepin/tholepinlaw06.BlobReads", spec := "blobReads", apart := false }
def BlobReadsSaid : Prop := blobReadsRow.holds Try.pinned (OpenSpec.ofChange blobReadsSpec)

/-- ITS FALSE NEIGHBOUR: 'it returns false'. Refute it at one input. -/
def blobReadsWrong : ChangeSpec := { name := "blobReads", fn := fun _ => fun
  | [d1, d2, d3] => { results := [.lit (.bool false)], args := [d1, d2, d3] }
  | _ => none }
def BlobReadsWrongFalsely : Prop := blobReadsRow.holds Try.pinned (OpenSpec.ofChange blobReadsWrong)

/-- 'tholepinlaw06.BlobBack': WHATEVER THE INPUT: true; the input reads as it did. -/
def blobBackSpec : ChangeSpec := { name := "blobBack", fn := fun _ => fun
  | [d1, d2, d3] => { results := [.lit (.bool true)], args := [d1, d2, d3] }
  | _ => none }
def blobBackRow : OpenClaim := { program := "ytgphhganepjaiaa", sum := "f601d9bdc4907fb5aaa0966331b9f85fc576315782c5eec988963e42ffe105ce", func := "tholepin/tholepinlaw06.BlobBack", spec := "blobBack", apart := false }
def BlobBackSaid : Prop := blobBackRow.holds Try.pinned (OpenSpec.ofChange blobBackSpec)

/-- ITS FALSE NEIGHBOUR: 'it returns false'. Refute it at one input. -/
def blobBackWrong : ChangeSpec := { name := "blobBack", fn := fun _ => fun
  | [d1, d2, d3] => { results := [.lit (.bool false)], args := [d1, d2, d3] }
  | _ => none }
def BlobBackWrongFalsely : Prop := blobBackRow.holds Try.pinned (OpenSpec.ofChange blobBackWrong)

/-- 'tholepinlaw22.DeltaWrites': WHATEVER THE INPUT: true; the input reads as it did. -/
def deltaWritesSpec : ChangeSpec := { name := "deltaWrites", fn := fun _ => fun
  | [d1, d2, d3] => { results := [.lit (.bool true)], args := [d1, d2, d3] }
  | _ => none }
def deltaWritesRow : OpenClaim := { program := "ytgphhganepjaiaa", sum := "f601d9bdc4907fb5aaa0966331b9f85fc576315782c5eec988963e42ffe105ce", func := "tholepin/tholepinlaw22.DeltaWrites", spec := "deltaWrites", recurses := true, apart := false }
def DeltaWritesSaid : Prop := deltaWritesRow.holds Try.pinned (OpenSpec.ofChange deltaWritesSpec)

/-- ITS FALSE NEIGHBOUR: 'it returns false'. Refute it at one input. -/
def deltaWritesWrong : ChangeSpec := { name := "deltaWrites", fn := fun _ => fun
  | [d1, d2, d3] => { results := [.lit (.bool false)], args := [d1, d2, d3] }
  | _ => none }
def DeltaWritesWrongFalsely : Prop := deltaWritesRow.holds Try.pinned (OpenSpec.ofChange deltaWritesWrong)

/-- 'tholepinlaw32.IndexReads': WHATEVER THE INPUT: true; the input reads as it did. -/
def indexReadsSpec : ChangeSpec := { name := "indexReads", fn := fun _ => fun
  | [d] => { results := [.lit (.bool true)], args := [d] }
  | _ => none }
def indexReadsRow : OpenClaim := { program := "ytgphhganepjaiaa", sum := "f601d9bdc4907fb5aaa0966331b9f85fc576315782c5eec988963e42ffe105ce", func := "tholepin/tholepinlaw32.IndexReads", spec := "indexReads", recurses := true, apart := false }
def IndexReadsSaid : Prop := indexReadsRow.holds Try.pinned (OpenSpec.ofChange indexReadsSpec)

/-- ITS FALSE NEIGHBOUR: 'it returns false'. Refute it at one input. -/
def indexReadsWrong : ChangeSpec := { name := "indexReads", fn := fun _ => fun
  | [d] => { results := [.lit (.bool false)], args := [d] }
  | _ => none }
def IndexReadsWrongFalsely : Prop := indexReadsRow.holds Try.pinned (OpenSpec.ofChange indexReadsWrong)

/-- 'tholepinlaw32.IndexWrites': WHATEVER THE INPUT: true; the input reads as it did. -/
def indexWritesSpec : ChangeSpec := { name := "indexWrites", fn := fun _ => fun
  | [d1, d2, d3] => { results := [.lit (.bool true)], args := [d1, d2, d3] }
  | _ => none }
def indexWritesRow : OpenClaim := { program := "ytgphhganepjaiaa", sum := "f601d9bdc4907fb5aaa0966331b9f85fc576315782c5eec988963e42ffe105ce", func := "tholepin/tholepinlaw32.IndexWrites", spec := "indexWrites", recurses := true, apart := false }
def IndexWritesSaid : Prop := indexWritesRow.holds Try.pinned (OpenSpec.ofChange indexWritesSpec)

/-- ITS FALSE NEIGHBOUR: 'it returns false'. Refute it at one input. -/
def indexWritesWrong : ChangeSpec := { name := "indexWrites", fn := fun _ => fun
  | [d1, d2, d3] => { results := [.lit (.bool false)], args := [d1, d2, d3] }
  | _ => none }
def IndexWritesWrongFalsely : Prop := indexWritesRow.holds Try.pinned (OpenSpec.ofChange indexWritesWrong)

/- THE SECOND FORM. 'bulk': how many values and letters a reading holds, each counted each time it is reached (what is shared counts as often as it is met; a slice's spare places count too). A statement '..UptoSaid' is the law's where the arguments, and the package variables that the reading takes, are together of bulk at most 1048576: NARROWER than '..Said'. Prove '..Said' where nothing that the law and all that it calls make is longer than what came in: it says more and counts as full. Else prove '..UptoSaid'. A law counts once. -/
mutual
def uptoBulk {H : Type} : DataW H → Nat
  | .lit (.string bytes) => bytes.length + 1
  | .lit _ => 1
  | .nil => 1
  | .ptr d => uptoBulk d + 1
  | .slice elems spare => uptoBulkAll elems + uptoBulkAll spare + 1
  | .agg parts => uptoBulkAll parts + 1
  | .iface _ d => uptoBulk d + 1
  | .map entries => uptoBulkEntries entries + 1
  | .held _ => 1
def uptoBulkAll {H : Type} : List (DataW H) → Nat
  | [] => 0
  | d :: r => uptoBulk d + uptoBulkAll r
def uptoBulkEntries {H : Type} : List (Lit × DataW H) → Nat
  | [] => 0
  | x :: r => uptoBulkEntry x + uptoBulkEntries r
def uptoBulkEntry {H : Type} : Lit × DataW H → Nat
  | (.string bytes, d) => bytes.length + uptoBulk d + 1
  | (_, d) => uptoBulk d + 1
 end
def uptoSmall : (H : Type) → List (DataW H) → Bool := fun _ ds => decide (uptoBulkAll ds ≤ 1048576)
def OpenSpec.upto (s : _root_.Go.ChangeSpec) : _root_.Go.OpenSpec := { _root_.Go.OpenSpec.ofChange s with cond := some uptoSmall }

/-- 'tholepinlaw17.EpochAdmits', WHERE WHAT IT READS IS OF BULK AT MOST 1048576: true; the input reads as it did. -/
def epochAdmitsUptoRow : OpenClaim := { program := "ytgphhganepjaiaa", sum := "f601d9bdc4907fb5aaa0966331b9f85fc576315782c5eec988963e42ffe105ce", func := "tholepin/tholepinlaw17.EpochAdmits", spec := "epochAdmits", apart := false, narrowed := true }
def EpochAdmitsUptoSaid : Prop := epochAdmitsUptoRow.holds Try.pinned (OpenSpec.upto epochAdmitsSpec)

/-- 'tholepinlaw17.EpochNext', WHERE WHAT IT READS IS OF BULK AT MOST 1048576: true; the input reads as it did. -/
def epochNextUptoRow : OpenClaim := { program := "ytgphhganepjaiaa", sum := "f601d9bdc4907fb5aaa0966331b9f85fc576315782c5eec988963e42ffe105ce", func := "tholepin/tholepinlaw17.EpochNext", spec := "epochNext", apart := false, narrowed := true }
def EpochNextUptoSaid : Prop := epochNextUptoRow.holds Try.pinned (OpenSpec.upto epochNextSpec)

/-- 'tholepinlaw17.EpochWrites', WHERE WHAT IT READS IS OF BULK AT MOST 1048576: true; the input reads as it did. -/
def epochWritesUptoRow : OpenClaim := { program := "ytgphhganepjaiaa", sum := "f601d9bdc4907fb5aaa0966331b9f85fc576315782c5eec988963e42ffe105ce", func := "tholepin/tholepinlaw17.EpochWrites", spec := "epochWrites", recurses := true, apart := false, narrowed := true }
def EpochWritesUptoSaid : Prop := epochWritesUptoRow.holds Try.pinned (OpenSpec.upto epochWritesSpec)

/-- 'tholepinlaw06.BlobWrites', WHERE WHAT IT READS IS OF BULK AT MOST 1048576: true; the input reads as it did. -/
def blobWritesUptoRow : OpenClaim := { program := "ytgphhganepjaiaa", sum := "f601d9bdc4907fb5aaa0966331b9f85fc576315782c5eec988963e42ffe105ce", func := "tholepin/tholepinlaw06.BlobWrites", spec := "blobWrites", recurses := true, apart := false, narrowed := true }
def BlobWritesUptoSaid : Prop := blobWritesUptoRow.holds Try.pinned (OpenSpec.upto blobWritesSpec)

/-- 'tholepinlaw22.DeltaMoves', WHERE WHAT IT READS IS OF BULK AT MOST 1048576: true; the input reads as it did. -/
def deltaMovesUptoRow : OpenClaim := { program := "ytgphhganepjaiaa", sum := "f601d9bdc4907fb5aaa0966331b9f85fc576315782c5eec988963e42ffe105ce", func := "tholepin/tholepinlaw22.DeltaMoves", spec := "deltaMoves", apart := false, narrowed := true }
def DeltaMovesUptoSaid : Prop := deltaMovesUptoRow.holds Try.pinned (OpenSpec.upto deltaMovesSpec)

/-- 'tholepinlaw22.DeltaTells', WHERE WHAT IT READS IS OF BULK AT MOST 1048576: true; the input reads as it did. -/
def deltaTellsUptoRow : OpenClaim := { program := "ytgphhganepjaiaa", sum := "f601d9bdc4907fb5aaa0966331b9f85fc576315782c5eec988963e42ffe105ce", func := "tholepin/tholepinlaw22.DeltaTells", spec := "deltaTells", apart := false, narrowed := true }
def DeltaTellsUptoSaid : Prop := deltaTellsUptoRow.holds Try.pinned (OpenSpec.upto deltaTellsSpec)

/-- 'tholepinlaw05.ZigzagRises', WHERE WHAT IT READS IS OF BULK AT MOST 1048576: true; the input reads as it did. -/
def zigzagRisesUptoRow : OpenClaim := { program := "ytgphhganepjaiaa", sum := "f601d9bdc4907fb5aaa0966331b9f85fc576315782c5eec988963e42ffe105ce", func := "tholepin/tholepinlaw05.ZigzagRises", spec := "zigzagRises", recurses := true, apart := false, narrowed := true }
def ZigzagRisesUptoSaid : Prop := zigzagRisesUptoRow.holds Try.pinned (OpenSpec.upto zigzagRisesSpec)

/-- 'tholepinlaw04.VarintOnce', WHERE WHAT IT READS IS OF BULK AT MOST 1048576: true; the input reads as it did. -/
def varintOnceUptoRow : OpenClaim := { program := "ytgphhganepjaiaa", sum := "f601d9bdc4907fb5aaa0966331b9f85fc576315782c5eec988963e42ffe105ce", func := "tholepin/tholepinlaw04.VarintOnce", spec := "varintOnce", apart := false, narrowed := true }
def VarintOnceUptoSaid : Prop := varintOnceUptoRow.holds Try.pinned (OpenSpec.upto varintOnceSpec)

/-- 'tholepinlaw32.IndexEnds', WHERE WHAT IT READS IS OF BULK AT MOST 1048576: true; the input reads as it did. -/
def indexEndsUptoRow : OpenClaim := { program := "ytgphhganepjaiaa", sum := "f601d9bdc4907fb5aaa0966331b9f85fc576315782c5eec988963e42ffe105ce", func := "tholepin/tholepinlaw32.IndexEnds", spec := "indexEnds", apart := false, narrowed := true }
def IndexEndsUptoSaid : Prop := indexEndsUptoRow.holds Try.pinned (OpenSpec.upto indexEndsSpec)

/-- 'tholepinlaw32.IndexFinds', WHERE WHAT IT READS IS OF BULK AT MOST 1048576: true; the input reads as it did. -/
def indexFindsUptoRow : OpenClaim := { program := "ytgphhganepjaiaa", sum := "f601d9bdc4907fb5aaa0966331b9f85fc576315782c5eec988963e42ffe105ce", func := "tholepin/tholepinlaw32.IndexFinds", spec := "indexFinds", apart := false, narrowed := true }
def IndexFindsUptoSaid : Prop := indexFindsUptoRow.holds Try.pinned (OpenSpec.upto indexFindsSpec)

/-- 'tholepinlaw04.VarintBack', WHERE WHAT IT READS IS OF BULK AT MOST 1048576: true; the input reads as it did. -/
def varintBackUptoRow : OpenClaim := { program := "ytgphhganepjaiaa", sum := "f601d9bdc4907fb5aaa0966331b9f85fc576315782c5eec988963e42ffe105ce", func := "tholepin/tholepinlaw04.VarintBack", spec := "varintBack", apart := false, narrowed := true }
def VarintBackUptoSaid : Prop := varintBackUptoRow.holds Try.pinned (OpenSpec.upto varintBackSpec)

/-- 'tholepinlaw17.EpochReads', WHERE WHAT IT READS IS OF BULK AT MOST 1048576: true; the input reads as it did. -/
def epochReadsUptoRow : OpenClaim := { program := "ytgphhganepjaiaa", sum := "f601d9bdc4907fb5aaa0966331b9f85fc576315782c5eec988963e42ffe105ce", func := "tholepin/tholepinlaw17.EpochReads", spec := "epochReads", unfollowed := true, recurses := true, apart := false, narrowed := true }
def EpochReadsUptoSaid : Prop := epochReadsUptoRow.holds Try.pinned (OpenSpec.upto epochReadsSpec)

/-- 'tholepinlaw04.VarintReads', WHERE WHAT IT READS IS OF BULK AT MOST 1048576: true; the input reads as it did. -/
def varintReadsUptoRow : OpenClaim := { program := "ytgphhganepjaiaa", sum := "f601d9bdc4907fb5aaa0966331b9f85fc576315782c5eec988963e42ffe105ce", func := "tholepin/tholepinlaw04.VarintReads", spec := "varintReads", apart := false, narrowed := true }
def VarintReadsUptoSaid : Prop := varintReadsUptoRow.holds Try.pinned (OpenSpec.upto varintReadsSpec)

/-- 'tholepinlaw32.IndexGaps', WHERE WHAT IT READS IS OF BULK AT MOST 1048576: true; the input reads as it did. -/
def indexGapsUptoRow : OpenClaim := { program := "ytgphhganepjaiaa", sum := "f601d9bdc4907fb5aaa0966331b9f85fc576315782c5eec988963e42ffe105ce", func := "tholepin/tholepinlaw32.IndexGaps", spec := "indexGaps", unfollowed := true, recurses := true, apart := false, narrowed := true }
def IndexGapsUptoSaid : Prop := indexGapsUptoRow.holds Try.pinned (OpenSpec.upto indexGapsSpec)

/-- 'tholepinlaw04.VarintWrites', WHERE WHAT IT READS IS OF BULK AT MOST 1048576: true; the input reads as it did. -/
def varintWritesUptoRow : OpenClaim := { program := "ytgphhganepjaiaa", sum := "f601d9bdc4907fb5aaa0966331b9f85fc576315782c5eec988963e42ffe105ce", func := "tholepin/tholepinlaw04.VarintWrites", spec := "varintWrites", recurses := true, apart := false, narrowed := true }
def VarintWritesUptoSaid : Prop := varintWritesUptoRow.holds Try.pinned (OpenSpec.upto varintWritesSpec)

/-- 'tholepinlaw05.ZigzagSigns', WHERE WHAT IT READS IS OF BULK AT MOST 1048576: true; the input reads as it did. -/
def zigzagSignsUptoRow : OpenClaim := { program := "ytgphhganepjaiaa", sum := "f601d9bdc4907fb5aaa0966331b9f85fc576315782c5eec988963e42ffe105ce", func := "tholepin/tholepinlaw05.ZigzagSigns", spec := "zigzagSigns", recurses := true, apart := false, narrowed := true }
def ZigzagSignsUptoSaid : Prop := zigzagSignsUptoRow.holds Try.pinned (OpenSpec.upto zigzagSignsSpec)

/-- 'tholepinlaw05.ZigzagReads', WHERE WHAT IT READS IS OF BULK AT MOST 1048576: true; the input reads as it did. -/
def zigzagReadsUptoRow : OpenClaim := { program := "ytgphhganepjaiaa", sum := "f601d9bdc4907fb5aaa0966331b9f85fc576315782c5eec988963e42ffe105ce", func := "tholepin/tholepinlaw05.ZigzagReads", spec := "zigzagReads", apart := false, narrowed := true }
def ZigzagReadsUptoSaid : Prop := zigzagReadsUptoRow.holds Try.pinned (OpenSpec.upto zigzagReadsSpec)

/-- 'tholepinlaw06.BlobOnce', WHERE WHAT IT READS IS OF BULK AT MOST 1048576: true; the input reads as it did. -/
def blobOnceUptoRow : OpenClaim := { program := "ytgphhganepjaiaa", sum := "f601d9bdc4907fb5aaa0966331b9f85fc576315782c5eec988963e42ffe105ce", func := "tholepin/tholepinlaw06.BlobOnce", spec := "blobOnce", recurses := true, apart := false, narrowed := true }
def BlobOnceUptoSaid : Prop := blobOnceUptoRow.holds Try.pinned (OpenSpec.upto blobOnceSpec)

/-- 'tholepinlaw22.DeltaReads', WHERE WHAT IT READS IS OF BULK AT MOST 1048576: true; the input reads as it did. -/
def deltaReadsUptoRow : OpenClaim := { program := "ytgphhganepjaiaa", sum := "f601d9bdc4907fb5aaa0966331b9f85fc576315782c5eec988963e42ffe105ce", func := "tholepin/tholepinlaw22.DeltaReads", spec := "deltaReads", recurses := true, apart := false, narrowed := true }
def DeltaReadsUptoSaid : Prop := deltaReadsUptoRow.holds Try.pinned (OpenSpec.upto deltaReadsSpec)

/-- 'tholepinlaw05.ZigzagBack', WHERE WHAT IT READS IS OF BULK AT MOST 1048576: true; the input reads as it did. -/
def zigzagBackUptoRow : OpenClaim := { program := "ytgphhganepjaiaa", sum := "f601d9bdc4907fb5aaa0966331b9f85fc576315782c5eec988963e42ffe105ce", func := "tholepin/tholepinlaw05.ZigzagBack", spec := "zigzagBack", recurses := true, apart := false, narrowed := true }
def ZigzagBackUptoSaid : Prop := zigzagBackUptoRow.holds Try.pinned (OpenSpec.upto zigzagBackSpec)

/-- 'tholepinlaw06.BlobReads', WHERE WHAT IT READS IS OF BULK AT MOST 1048576: true; the input reads as it did. -/
def blobReadsUptoRow : OpenClaim := { program := "ytgphhganepjaiaa", sum := "f601d9bdc4907fb5aaa0966331b9f85fc576315782c5eec988963e42ffe105ce", func := "tholepin/tholepinlaw06.BlobReads", spec := "blobReads", apart := false, narrowed := true }
def BlobReadsUptoSaid : Prop := blobReadsUptoRow.holds Try.pinned (OpenSpec.upto blobReadsSpec)

/-- 'tholepinlaw06.BlobBack', WHERE WHAT IT READS IS OF BULK AT MOST 1048576: true; the input reads as it did. -/
def blobBackUptoRow : OpenClaim := { program := "ytgphhganepjaiaa", sum := "f601d9bdc4907fb5aaa0966331b9f85fc576315782c5eec988963e42ffe105ce", func := "tholepin/tholepinlaw06.BlobBack", spec := "blobBack", apart := false, narrowed := true }
def BlobBackUptoSaid : Prop := blobBackUptoRow.holds Try.pinned (OpenSpec.upto blobBackSpec)

/-- 'tholepinlaw22.DeltaWrites', WHERE WHAT IT READS IS OF BULK AT MOST 1048576: true; the input reads as it did. -/
def deltaWritesUptoRow : OpenClaim := { program := "ytgphhganepjaiaa", sum := "f601d9bdc4907fb5aaa0966331b9f85fc576315782c5eec988963e42ffe105ce", func := "tholepin/tholepinlaw22.DeltaWrites", spec := "deltaWrites", recurses := true, apart := false, narrowed := true }
def DeltaWritesUptoSaid : Prop := deltaWritesUptoRow.holds Try.pinned (OpenSpec.upto deltaWritesSpec)

/-- 'tholepinlaw32.IndexReads', WHERE WHAT IT READS IS OF BULK AT MOST 1048576: true; the input reads as it did. -/
def indexReadsUptoRow : OpenClaim := { program := "ytgphhganepjaiaa", sum := "f601d9bdc4907fb5aaa0966331b9f85fc576315782c5eec988963e42ffe105ce", func := "tholepin/tholepinlaw32.IndexReads", spec := "indexReads", recurses := true, apart := false, narrowed := true }
def IndexReadsUptoSaid : Prop := indexReadsUptoRow.holds Try.pinned (OpenSpec.upto indexReadsSpec)

/-- 'tholepinlaw32.IndexWrites', WHERE WHAT IT READS IS OF BULK AT MOST 1048576: true; the input reads as it did. -/
def indexWritesUptoRow : OpenClaim := { program := "ytgphhganepjaiaa", sum := "f601d9bdc4907fb5aaa0966331b9f85fc576315782c5eec988963e42ffe105ce", func := "tholepin/tholepinlaw32.IndexWrites", spec := "indexWrites", recurses := true, apart := false, narrowed := true }
def IndexWritesUptoSaid : Prop := indexWritesUptoRow.holds Try.pinned (OpenSpec.upto indexWritesSpec)

end Rows
end Go.Proofs.Ytgphhganepjaiaa
