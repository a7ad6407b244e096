/-
  No cell of these rows narrows 'for every input' (looked for: loops, veiled, ifaces, maps, wideKeys, modest, calm, conditions, laid).
  DERIVED. THE GIVEN ROWS OF THIS SEAT. 16 by the template 'for every input the law returns true; each argument reads behind the call as it read before'; 0 by the template 'total and deterministic' (their statements: YtkhnfleejgfhgaaTotals.lean).
  GIVEN WITH THE SEED: the statements are not yours to turn. If you find one false, say at which input.
  Laid BY PROGRAM, IN A SANDBOX (cutbox-rows.mjs): the forced cells as the released guide's own fill.sh prints them over the translation 3664ee7152b49abe… (all of the seat's roots in one cut). By AI agents, Wed Nov 11 2026. No macro, syntax, notation, axiom, sorry.
-/
import Derived.Test.YtkhnfleejgfhgaaChecked
import GoSem.Claim
import GoSem.ClaimJoined
import GoSem.ClaimMapViews
import Derived.JoinedTies
import Derived.KernelRfl
namespace Go.Proofs.Ytkhnfleejgfhgaa
/- THE CELL 'sum', in the pinned program and in every row, IS THE sha256 OF THE DUMP (.gsa) THAT YtkhnfleejgfhgaaProg.lean LOADS. Nothing in Lean hashes anything: it is a label: what it is worth is what the hold of that sum in a sandbox is worth. -/
noncomputable def Try.pinned : Pinned := { name := "ytkhnfleejgfhgaa", sum := "3664ee7152b49abe83ef9e37a7acf05711beacf20f30217806a061b4b48065c3", checked := Try.checked }
namespace Rows
def none {H : Type} : Left H := { results := [], args := [] }

/-- 'tholepinlaw24.EntryDeals': WHATEVER THE INPUT: true; the input reads as it did. -/
def entryDealsSpec : ChangeSpec := { name := "entryDeals", fn := fun _ => fun
  | [d1, d2, d3] => { results := [.lit (.bool true)], args := [d1, d2, d3] }
  | _ => none }
def entryDealsRow : OpenClaim := { program := "ytkhnfleejgfhgaa", sum := "3664ee7152b49abe83ef9e37a7acf05711beacf20f30217806a061b4b48065c3", func := "tholepin/tholepinlaw24.EntryDeals", spec := "entryDeals", unfollowed := true, recurses := true, apart := false }
def EntryDealsSaid : Prop := entryDealsRow.holds Try.pinned (OpenSpec.ofChange entryDealsSpec)

/-- ITS FALSE NEIGHBOUR: 'it returns false'. Refute it at one input. -/
def entryDealsWrong : ChangeSpec := { name := "entryDeals", fn := fun _ => fun
  | [d1, d2, d3] => { results := [.lit (.bool false)], args := [d1, d2, d3] }
  | _ => none }
def EntryDealsWrongFalsely : Prop := entryDealsRow.holds Try.pinned (OpenSpec.ofChange entryDealsWrong)

/-- 'tholepinlaw24.EntryCopies': WHATEVER THE INPUT: true; the input reads as it did. -/
def entryCopiesSpec : ChangeSpec := { name := "entryCopies", fn := fun _ => fun
  | [d1, d2] => { results := [.lit (.bool true)], args := [d1, d2] }
  | _ => none }
def entryCopiesRow : OpenClaim := { program := "ytkhnfleejgfhgaa", sum := "3664ee7152b49abe83ef9e37a7acf05711beacf20f30217806a061b4b48065c3", func := "tholepin/tholepinlaw24.EntryCopies", spec := "entryCopies", unfollowed := true, recurses := true, apart := false }
def EntryCopiesSaid : Prop := entryCopiesRow.holds Try.pinned (OpenSpec.ofChange entryCopiesSpec)

/-- ITS FALSE NEIGHBOUR: 'it returns false'. Refute it at one input. -/
def entryCopiesWrong : ChangeSpec := { name := "entryCopies", fn := fun _ => fun
  | [d1, d2] => { results := [.lit (.bool false)], args := [d1, d2] }
  | _ => none }
def EntryCopiesWrongFalsely : Prop := entryCopiesRow.holds Try.pinned (OpenSpec.ofChange entryCopiesWrong)

/-- 'tholepinlaw33.FooterReads': WHATEVER THE INPUT: true; the input reads as it did. -/
def footerReadsSpec : ChangeSpec := { name := "footerReads", fn := fun _ => fun
  | [d] => { results := [.lit (.bool true)], args := [d] }
  | _ => none }
def footerReadsRow : OpenClaim := { program := "ytkhnfleejgfhgaa", sum := "3664ee7152b49abe83ef9e37a7acf05711beacf20f30217806a061b4b48065c3", func := "tholepin/tholepinlaw33.FooterReads", spec := "footerReads", unfollowed := true, recurses := true, apart := false }
def FooterReadsSaid : Prop := footerReadsRow.holds Try.pinned (OpenSpec.ofChange footerReadsSpec)

/-- ITS FALSE NEIGHBOUR: 'it returns false'. Refute it at one input. -/
def footerReadsWrong : ChangeSpec := { name := "footerReads", fn := fun _ => fun
  | [d] => { results := [.lit (.bool false)], args := [d] }
  | _ => none }
def FooterReadsWrongFalsely : Prop := footerReadsRow.holds Try.pinned (OpenSpec.ofChange footerReadsWrong)

/-- 'tholepinlaw23.LinkLater': WHATEVER THE INPUT: true; the input reads as it did. -/
def linkLaterSpec : ChangeSpec := { name := "linkLater", fn := fun _ => fun
  | [d1, d2, d3] => { results := [.lit (.bool true)], args := [d1, d2, d3] }
  | _ => none }
def linkLaterRow : OpenClaim := { program := "ytkhnfleejgfhgaa", sum := "3664ee7152b49abe83ef9e37a7acf05711beacf20f30217806a061b4b48065c3", func := "tholepin/tholepinlaw23.LinkLater", spec := "linkLater", inPlace := ["slices.overlaps[tholepin/api.Link]"], unfollowed := true, recurses := true, apart := false }
def LinkLaterSaid : Prop := linkLaterRow.holds Try.pinned (OpenSpec.ofChange linkLaterSpec)

/-- ITS FALSE NEIGHBOUR: 'it returns false'. Refute it at one input. -/
def linkLaterWrong : ChangeSpec := { name := "linkLater", fn := fun _ => fun
  | [d1, d2, d3] => { results := [.lit (.bool false)], args := [d1, d2, d3] }
  | _ => none }
def LinkLaterWrongFalsely : Prop := linkLaterRow.holds Try.pinned (OpenSpec.ofChange linkLaterWrong)

/-- 'tholepinlaw23.LinkReads': WHATEVER THE INPUT: true; the input reads as it did. -/
def linkReadsSpec : ChangeSpec := { name := "linkReads", fn := fun _ => fun
  | [d1, d2] => { results := [.lit (.bool true)], args := [d1, d2] }
  | _ => none }
def linkReadsRow : OpenClaim := { program := "ytkhnfleejgfhgaa", sum := "3664ee7152b49abe83ef9e37a7acf05711beacf20f30217806a061b4b48065c3", func := "tholepin/tholepinlaw23.LinkReads", spec := "linkReads", unfollowed := true, recurses := true, apart := false }
def LinkReadsSaid : Prop := linkReadsRow.holds Try.pinned (OpenSpec.ofChange linkReadsSpec)

/-- ITS FALSE NEIGHBOUR: 'it returns false'. Refute it at one input. -/
def linkReadsWrong : ChangeSpec := { name := "linkReads", fn := fun _ => fun
  | [d1, d2] => { results := [.lit (.bool false)], args := [d1, d2] }
  | _ => none }
def LinkReadsWrongFalsely : Prop := linkReadsRow.holds Try.pinned (OpenSpec.ofChange linkReadsWrong)

/-- 'tholepinlaw24.EntryReads': WHATEVER THE INPUT: true; the input reads as it did. -/
def entryReadsSpec : ChangeSpec := { name := "entryReads", fn := fun _ => fun
  | [d1, d2, d3] => { results := [.lit (.bool true)], args := [d1, d2, d3] }
  | _ => none }
def entryReadsRow : OpenClaim := { program := "ytkhnfleejgfhgaa", sum := "3664ee7152b49abe83ef9e37a7acf05711beacf20f30217806a061b4b48065c3", func := "tholepin/tholepinlaw24.EntryReads", spec := "entryReads", unfollowed := true, recurses := true, apart := false }
def EntryReadsSaid : Prop := entryReadsRow.holds Try.pinned (OpenSpec.ofChange entryReadsSpec)

/-- ITS FALSE NEIGHBOUR: 'it returns false'. Refute it at one input. -/
def entryReadsWrong : ChangeSpec := { name := "entryReads", fn := fun _ => fun
  | [d1, d2, d3] => { results := [.lit (.bool false)], args := [d1, d2, d3] }
  | _ => none }
def EntryReadsWrongFalsely : Prop := entryReadsRow.holds Try.pinned (OpenSpec.ofChange entryReadsWrong)

/-- 'tholepinlaw23.LinkWrites': WHATEVER THE INPUT: true; the input reads as it did. -/
def linkWritesSpec : ChangeSpec := { name := "linkWrites", fn := fun _ => fun
  | [d1, d2, d3] => { results := [.lit (.bool true)], args := [d1, d2, d3] }
  | _ => none }
def linkWritesRow : OpenClaim := { program := "ytkhnfleejgfhgaa", sum := "3664ee7152b49abe83ef9e37a7acf05711beacf20f30217806a061b4b48065c3", func := "tholepin/tholepinlaw23.LinkWrites", spec := "linkWrites", unfollowed := true, recurses := true, apart := false }
def LinkWritesSaid : Prop := linkWritesRow.holds Try.pinned (OpenSpec.ofChange linkWritesSpec)

/-- ITS FALSE NEIGHBOUR: 'it returns false'. Refute it at one input. -/
def linkWritesWrong : ChangeSpec := { name := "linkWrites", fn := fun _ => fun
  | [d1, d2, d3] => { results := [.lit (.bool false)], args := [d1, d2, d3] }
  | _ => none }
def LinkWritesWrongFalsely : Prop := linkWritesRow.holds Try.pinned (OpenSpec.ofChange linkWritesWrong)

/-- 'tholepinlaw31.HeaderTells': WHATEVER THE INPUT: true; the input reads as it did. -/
def headerTellsSpec : ChangeSpec := { name := "headerTells", fn := fun _ => fun
  | [d1, d2, d3] => { results := [.lit (.bool true)], args := [d1, d2, d3] }
  | _ => none }
def headerTellsRow : OpenClaim := { program := "ytkhnfleejgfhgaa", sum := "3664ee7152b49abe83ef9e37a7acf05711beacf20f30217806a061b4b48065c3", func := "tholepin/tholepinlaw31.HeaderTells", spec := "headerTells", unfollowed := true, recurses := true, apart := false }
def HeaderTellsSaid : Prop := headerTellsRow.holds Try.pinned (OpenSpec.ofChange headerTellsSpec)

/-- ITS FALSE NEIGHBOUR: 'it returns false'. Refute it at one input. -/
def headerTellsWrong : ChangeSpec := { name := "headerTells", fn := fun _ => fun
  | [d1, d2, d3] => { results := [.lit (.bool false)], args := [d1, d2, d3] }
  | _ => none }
def HeaderTellsWrongFalsely : Prop := headerTellsRow.holds Try.pinned (OpenSpec.ofChange headerTellsWrong)

/-- 'tholepinlaw23.LinkChanges': WHATEVER THE INPUT: true; the input reads as it did. -/
def linkChangesSpec : ChangeSpec := { name := "linkChanges", fn := fun _ => fun
  | [d1, d2, d3] => { results := [.lit (.bool true)], args := [d1, d2, d3] }
  | _ => none }
def linkChangesRow : OpenClaim := { program := "ytkhnfleejgfhgaa", sum := "3664ee7152b49abe83ef9e37a7acf05711beacf20f30217806a061b4b48065c3", func := "tholepin/tholepinlaw23.LinkChanges", spec := "linkChanges", inPlace := ["slices.overlaps[tholepin/api.Link]"], unfollowed := true, recurses := true, apart := false }
def LinkChangesSaid : Prop := linkChangesRow.holds Try.pinned (OpenSpec.ofChange linkChangesSpec)

/-- ITS FALSE NEIGHBOUR: 'it returns false'. Refute it at one input. -/
def linkChangesWrong : ChangeSpec := { name := "linkChanges", fn := fun _ => fun
  | [d1, d2, d3] => { results := [.lit (.bool false)], args := [d1, d2, d3] }
  | _ => none }
def LinkChangesWrongFalsely : Prop := linkChangesRow.holds Try.pinned (OpenSpec.ofChange linkChangesWrong)

/-- 'tholepinlaw31.HeaderWrites': WHATEVER THE INPUT: true; the input reads as it did. -/
def headerWritesSpec : ChangeSpec := { name := "headerWrites", fn := fun _ => fun
  | [d1, d2] => { results := [.lit (.bool true)], args := [d1, d2] }
  | _ => none }
def headerWritesRow : OpenClaim := { program := "ytkhnfleejgfhgaa", sum := "3664ee7152b49abe83ef9e37a7acf05711beacf20f30217806a061b4b48065c3", func := "tholepin/tholepinlaw31.HeaderWrites", spec := "headerWrites", unfollowed := true, recurses := true, apart := false }
def HeaderWritesSaid : Prop := headerWritesRow.holds Try.pinned (OpenSpec.ofChange headerWritesSpec)

/-- ITS FALSE NEIGHBOUR: 'it returns false'. Refute it at one input. -/
def headerWritesWrong : ChangeSpec := { name := "headerWrites", fn := fun _ => fun
  | [d1, d2] => { results := [.lit (.bool false)], args := [d1, d2] }
  | _ => none }
def HeaderWritesWrongFalsely : Prop := headerWritesRow.holds Try.pinned (OpenSpec.ofChange headerWritesWrong)

/-- 'tholepinlaw31.HeaderReads': WHATEVER THE INPUT: true; the input reads as it did. -/
def headerReadsSpec : ChangeSpec := { name := "headerReads", fn := fun _ => fun
  | [d1, d2] => { results := [.lit (.bool true)], args := [d1, d2] }
  | _ => none }
def headerReadsRow : OpenClaim := { program := "ytkhnfleejgfhgaa", sum := "3664ee7152b49abe83ef9e37a7acf05711beacf20f30217806a061b4b48065c3", func := "tholepin/tholepinlaw31.HeaderReads", spec := "headerReads", unfollowed := true, recurses := true, apart := false }
def HeaderReadsSaid : Prop := headerReadsRow.holds Try.pinned (OpenSpec.ofChange headerReadsSpec)

/-- ITS FALSE NEIGHBOUR: 'it returns false'. Refute it at one input. -/
def headerReadsWrong : ChangeSpec := { name := "headerReads", fn := fun _ => fun
  | [d1, d2] => { results := [.lit (.bool false)], args := [d1, d2] }
  | _ => none }
def HeaderReadsWrongFalsely : Prop := headerReadsRow.holds Try.pinned (OpenSpec.ofChange headerReadsWrong)

/-- 'tholepinlaw31.HeaderCuts': WHATEVER THE INPUT: true; the input reads as it did. -/
def headerCutsSpec : ChangeSpec := { name := "headerCuts", fn := fun _ => fun
  | [d1, d2] => { results := [.lit (.bool true)], args := [d1, d2] }
  | _ => none }
def headerCutsRow : OpenClaim := { program := "ytkhnfleejgfhgaa", sum := "3664ee7152b49abe83ef9e37a7acf05711beacf20f30217806a061b4b48065c3", func := "tholepin/tholepinlaw31.HeaderCuts", spec := "headerCuts", unfollowed := true, recurses := true, apart := false }
def HeaderCutsSaid : Prop := headerCutsRow.holds Try.pinned (OpenSpec.ofChange headerCutsSpec)

/-- ITS FALSE NEIGHBOUR: 'it returns false'. Refute it at one input. -/
def headerCutsWrong : ChangeSpec := { name := "headerCuts", fn := fun _ => fun
  | [d1, d2] => { results := [.lit (.bool false)], args := [d1, d2] }
  | _ => none }
def HeaderCutsWrongFalsely : Prop := headerCutsRow.holds Try.pinned (OpenSpec.ofChange headerCutsWrong)

/-- 'tholepinlaw24.EntryHeads': WHATEVER THE INPUT: true; the input reads as it did. -/
def entryHeadsSpec : ChangeSpec := { name := "entryHeads", fn := fun _ => fun
  | [d1, d2, d3] => { results := [.lit (.bool true)], args := [d1, d2, d3] }
  | _ => none }
def entryHeadsRow : OpenClaim := { program := "ytkhnfleejgfhgaa", sum := "3664ee7152b49abe83ef9e37a7acf05711beacf20f30217806a061b4b48065c3", func := "tholepin/tholepinlaw24.EntryHeads", spec := "entryHeads", unfollowed := true, recurses := true, apart := false }
def EntryHeadsSaid : Prop := entryHeadsRow.holds Try.pinned (OpenSpec.ofChange entryHeadsSpec)

/-- ITS FALSE NEIGHBOUR: 'it returns false'. Refute it at one input. -/
def entryHeadsWrong : ChangeSpec := { name := "entryHeads", fn := fun _ => fun
  | [d1, d2, d3] => { results := [.lit (.bool false)], args := [d1, d2, d3] }
  | _ => none }
def EntryHeadsWrongFalsely : Prop := entryHeadsRow.holds Try.pinned (OpenSpec.ofChange entryHeadsWrong)

/-- 'tholepinlaw33.FooterFinds': WHATEVER THE INPUT: true; the input reads as it did. -/
def footerFindsSpec : ChangeSpec := { name := "footerFinds", fn := fun _ => fun
  | [d] => { results := [.lit (.bool true)], args := [d] }
  | _ => none }
def footerFindsRow : OpenClaim := { program := "ytkhnfleejgfhgaa", sum := "3664ee7152b49abe83ef9e37a7acf05711beacf20f30217806a061b4b48065c3", func := "tholepin/tholepinlaw33.FooterFinds", spec := "footerFinds", unfollowed := true, recurses := true, apart := false }
def FooterFindsSaid : Prop := footerFindsRow.holds Try.pinned (OpenSpec.ofChange footerFindsSpec)

/-- ITS FALSE NEIGHBOUR: 'it returns false'. Refute it at one input. -/
def footerFindsWrong : ChangeSpec := { name := "footerFinds", fn := fun _ => fun
  | [d] => { results := [.lit (.bool false)], args := [d] }
  | _ => none }
def FooterFindsWrongFalsely : Prop := footerFindsRow.holds Try.pinned (OpenSpec.ofChange footerFindsWrong)

/-- 'tholepinlaw33.FooterAlone': WHATEVER THE INPUT: true; the input reads as it did. -/
def footerAloneSpec : ChangeSpec := { name := "footerAlone", fn := fun _ => fun
  | [d1, d2] => { results := [.lit (.bool true)], args := [d1, d2] }
  | _ => none }
def footerAloneRow : OpenClaim := { program := "ytkhnfleejgfhgaa", sum := "3664ee7152b49abe83ef9e37a7acf05711beacf20f30217806a061b4b48065c3", func := "tholepin/tholepinlaw33.FooterAlone", spec := "footerAlone", unfollowed := true, recurses := true, apart := false }
def FooterAloneSaid : Prop := footerAloneRow.holds Try.pinned (OpenSpec.ofChange footerAloneSpec)

/-- ITS FALSE NEIGHBOUR: 'it returns false'. Refute it at one input. -/
def footerAloneWrong : ChangeSpec := { name := "footerAlone", fn := fun _ => fun
  | [d1, d2] => { results := [.lit (.bool false)], args := [d1, d2] }
  | _ => none }
def FooterAloneWrongFalsely : Prop := footerAloneRow.holds Try.pinned (OpenSpec.ofChange footerAloneWrong)

/-- 'tholepinlaw33.FooterWrites': WHATEVER THE INPUT: true; the input reads as it did. -/
def footerWritesSpec : ChangeSpec := { name := "footerWrites", fn := fun _ => fun
  | [d1, d2, d3] => { results := [.lit (.bool true)], args := [d1, d2, d3] }
  | _ => none }
def footerWritesRow : OpenClaim := { program := "ytkhnfleejgfhgaa", sum := "3664ee7152b49abe83ef9e37a7acf05711beacf20f30217806a061b4b48065c3", func := "tholepin/tholepinlaw33.FooterWrites", spec := "footerWrites", unfollowed := true, recurses := true, apart := false }
def FooterWritesSaid : Prop := footerWritesRow.holds Try.pinned (OpenSpec.ofChange footerWritesSpec)

/-- ITS FALSE NEIGHBOUR: 'it returns false'. Refute it at one input. -/
def footerWritesWrong : ChangeSpec := { name := "footerWrites", fn := fun _ => fun
  | [d1, d2, d3] => { results := [.lit (.bool false)], args := [d1, d2, d3] }
  | _ => none }
def FooterWritesWrongFalsely : Prop := footerWritesRow.holds Try.pinned (OpenSpec.ofChange footerWritesWrong)

/- THE SECOND FORM. 'bulk': how many values and letters a reading holds, each counted each time it is reached (what is shared counts as often as it is met; a slice's spare places count too). A statement '..UptoSaid' is the law's where the arguments, and the package variables that the reading takes, are together of bulk at most 1048576: NARROWER than '..Said'. Prove '..Said' where nothing that the law and all that it calls make is longer than what came in: it says more and counts as full. Else prove '..UptoSaid'. A law counts once. -/
mutual
def uptoBulk {H : Type} : DataW H → Nat
  | .lit (.string bytes) => bytes.length + 1
  | .lit _ => 1
  | .nil => 1
  | .ptr d => uptoBulk d + 1
  | .slice elems spare => uptoBulkAll elems + uptoBulkAll spare + 1
  | .agg parts => uptoBulkAll parts + 1
  | .iface _ d => uptoBulk d + 1
  | .map entries => uptoBulkEntries entries + 1
  | .held _ => 1
def uptoBulkAll {H : Type} : List (DataW H) → Nat
  | [] => 0
  | d :: r => uptoBulk d + uptoBulkAll r
def uptoBulkEntries {H : Type} : List (Lit × DataW H) → Nat
  | [] => 0
  | x :: r => uptoBulkEntry x + uptoBulkEntries r
def uptoBulkEntry {H : Type} : Lit × DataW H → Nat
  | (.string bytes, d) => bytes.length + uptoBulk d + 1
  | (_, d) => uptoBulk d + 1
 end
def uptoSmall : (H : Type) → List (DataW H) → Bool := fun _ ds => decide (uptoBulkAll ds ≤ 1048576)
def OpenSpec.upto (s : _root_.Go.ChangeSpec) : _root_.Go.OpenSpec := { _root_.Go.OpenSpec.ofChange s with cond := some uptoSmall }

/-- 'tholepinlaw24.EntryDeals', WHERE WHAT IT READS IS OF BULK AT MOST 1048576: true; the input reads as it did. -/
def entryDealsUptoRow : OpenClaim := { program := "ytkhnfleejgfhgaa", sum := "3664ee7152b49abe83ef9e37a7acf05711beacf20f30217806a061b4b48065c3", func := "tholepin/tholepinlaw24.EntryDeals", spec := "entryDeals", unfollowed := true, recurses := true, apart := false, narrowed := true }
def EntryDealsUptoSaid : Prop := entryDealsUptoRow.holds Try.pinned (OpenSpec.upto entryDealsSpec)

/-- 'tholepinlaw24.EntryCopies', WHERE WHAT IT READS IS OF BULK AT MOST 1048576: true; the input reads as it did. -/
def entryCopiesUptoRow : OpenClaim := { program := "ytkhnfleejgfhgaa", sum := "3664ee7152b49abe83ef9e37a7acf05711beacf20f30217806a061b4b48065c3", func := "tholepin/tholepinlaw24.EntryCopies", spec := "entryCopies", unfollowed := true, recurses := true, apart := false, narrowed := true }
def EntryCopiesUptoSaid : Prop := entryCopiesUptoRow.holds Try.pinned (OpenSpec.upto entryCopiesSpec)

/-- 'tholepinlaw33.FooterReads', WHERE WHAT IT READS IS OF BULK AT MOST 1048576: true; the input reads as it did. -/
def footerReadsUptoRow : OpenClaim := { program := "ytkhnfleejgfhgaa", sum := "3664ee7152b49abe83ef9e37a7acf05711beacf20f30217806a061b4b48065c3", func := "tholepin/tholepinlaw33.FooterReads", spec := "footerReads", unfollowed := true, recurses := true, apart := false, narrowed := true }
def FooterReadsUptoSaid : Prop := footerReadsUptoRow.holds Try.pinned (OpenSpec.upto footerReadsSpec)

/-- 'tholepinlaw23.LinkLater', WHERE WHAT IT READS IS OF BULK AT MOST 1048576: true; the input reads as it did. -/
def linkLaterUptoRow : OpenClaim := { program := "ytkhnfleejgfhgaa", sum := "3664ee7152b49abe83ef9e37a7acf05711beacf20f30217806a061b4b48065c3", func := "tholepin/tholepinlaw23.LinkLater", spec := "linkLater", inPlace := ["slices.overlaps[tholepin/api.Link]"], unfollowed := true, recurses := true, apart := false, narrowed := true }
def LinkLaterUptoSaid : Prop := linkLaterUptoRow.holds Try.pinned (OpenSpec.upto linkLaterSpec)

/-- 'tholepinlaw23.LinkReads', WHERE WHAT IT READS IS OF BULK AT MOST 1048576: true; the input reads as it did. -/
def linkReadsUptoRow : OpenClaim := { program := "ytkhnfleejgfhgaa", sum := "3664ee7152b49abe83ef9e37a7acf05711beacf20f30217806a061b4b48065c3", func := "tholepin/tholepinlaw23.LinkReads", spec := "linkReads", unfollowed := true, recurses := true, apart := false, narrowed := true }
def LinkReadsUptoSaid : Prop := linkReadsUptoRow.holds Try.pinned (OpenSpec.upto linkReadsSpec)

/-- 'tholepinlaw24.EntryReads', WHERE WHAT IT READS IS OF BULK AT MOST 1048576: true; the input reads as it did. -/
def entryReadsUptoRow : OpenClaim := { program := "ytkhnfleejgfhgaa", sum := "3664ee7152b49abe83ef9e37a7acf05711beacf20f30217806a061b4b48065c3", func := "tholepin/tholepinlaw24.EntryReads", spec := "entryReads", unfollowed := true, recurses := true, apart := false, narrowed := true }
def EntryReadsUptoSaid : Prop := entryReadsUptoRow.holds Try.pinned (OpenSpec.upto entryReadsSpec)

/-- 'tholepinlaw23.LinkWrites', WHERE WHAT IT READS IS OF BULK AT MOST 1048576: true; the input reads as it did. -/
def linkWritesUptoRow : OpenClaim := { program := "ytkhnfleejgfhgaa", sum := "3664ee7152b49abe83ef9e37a7acf05711beacf20f30217806a061b4b48065c3", func := "tholepin/tholepinlaw23.LinkWrites", spec := "linkWrites", unfollowed := true, recurses := true, apart := false, narrowed := true }
def LinkWritesUptoSaid : Prop := linkWritesUptoRow.holds Try.pinned (OpenSpec.upto linkWritesSpec)

/-- 'tholepinlaw31.HeaderTells', WHERE WHAT IT READS IS OF BULK AT MOST 1048576: true; the input reads as it did. -/
def headerTellsUptoRow : OpenClaim := { program := "ytkhnfleejgfhgaa", sum := "3664ee7152b49abe83ef9e37a7acf05711beacf20f30217806a061b4b48065c3", func := "tholepin/tholepinlaw31.HeaderTells", spec := "headerTells", unfollowed := true, recurses := true, apart := false, narrowed := true }
def HeaderTellsUptoSaid : Prop := headerTellsUptoRow.holds Try.pinned (OpenSpec.upto headerTellsSpec)

/-- 'tholepinlaw23.LinkChanges', WHERE WHAT IT READS IS OF BULK AT MOST 1048576: true; the input reads as it did. -/
def linkChangesUptoRow : OpenClaim := { program := "ytkhnfleejgfhgaa", sum := "3664ee7152b49abe83ef9e37a7acf05711beacf20f30217806a061b4b48065c3", func := "tholepin/tholepinlaw23.LinkChanges", spec := "linkChanges", inPlace := ["slices.overlaps[tholepin/api.Link]"], unfollowed := true, recurses := true, apart := false, narrowed := true }
def LinkChangesUptoSaid : Prop := linkChangesUptoRow.holds Try.pinned (OpenSpec.upto linkChangesSpec)

/-- 'tholepinlaw31.HeaderWrites', WHERE WHAT IT READS IS OF BULK AT MOST 1048576: true; the input reads as it did. -/
def headerWritesUptoRow : OpenClaim := { program := "ytkhnfleejgfhgaa", sum := "3664ee7152b49abe83ef9e37a7acf05711beacf20f30217806a061b4b48065c3", func := "tholepin/tholepinlaw31.HeaderWrites", spec := "headerWrites", unfollowed := true, recurses := true, apart := false, narrowed := true }
def HeaderWritesUptoSaid : Prop := headerWritesUptoRow.holds Try.pinned (OpenSpec.upto headerWritesSpec)

/-- 'tholepinlaw31.HeaderReads', WHERE WHAT IT READS IS OF BULK AT MOST 1048576: true; the input reads as it did. -/
def headerReadsUptoRow : OpenClaim := { program := "ytkhnfleejgfhgaa", sum := "3664ee7152b49abe83ef9e37a7acf05711beacf20f30217806a061b4b48065c3", func := "tholepin/tholepinlaw31.HeaderReads", spec := "headerReads", unfollowed := true, recurses := true, apart := false, narrowed := true }
def HeaderReadsUptoSaid : Prop := headerReadsUptoRow.holds Try.pinned (OpenSpec.upto headerReadsSpec)

/-- 'tholepinlaw31.HeaderCuts', WHERE WHAT IT READS IS OF BULK AT MOST 1048576: true; the input reads as it did. -/
def headerCutsUptoRow : OpenClaim := { program := "ytkhnfleejgfhgaa", sum := "3664ee7152b49abe83ef9e37a7acf05711beacf20f30217806a061b4b48065c3", func := "tholepin/tholepinlaw31.HeaderCuts", spec := "headerCuts", unfollowed := true, recurses := true, apart := false, narrowed := true }
def HeaderCutsUptoSaid : Prop := headerCutsUptoRow.holds Try.pinned (OpenSpec.upto headerCutsSpec)

/-- 'tholepinlaw24.EntryHeads', WHERE WHAT IT READS IS OF BULK AT MOST 1048576: true; the input reads as it did. -/
def entryHeadsUptoRow : OpenClaim := { program := "ytkhnfleejgfhgaa", sum := "3664ee7152b49abe83ef9e37a7acf05711beacf20f30217806a061b4b48065c3", func := "tholepin/tholepinlaw24.EntryHeads", spec := "entryHeads", unfollowed := true, recurses := true, apart := false, narrowed := true }
def EntryHeadsUptoSaid : Prop := entryHeadsUptoRow.holds Try.pinned (OpenSpec.upto entryHeadsSpec)

/-- 'tholepinlaw33.FooterFinds', WHERE WHAT IT READS IS OF BULK AT MOST 1048576: true; the input reads as it did. -/
def footerFindsUptoRow : OpenClaim := { program := "ytkhnfleejgfhgaa", sum := "3664ee7152b49abe83ef9e37a7acf05711beacf20f30217806a061b4b48065c3", func := "tholepin/tholepinlaw33.FooterFinds", spec := "footerFinds", unfollowed := true, recurses := true, apart := false, narrowed := true }
def FooterFindsUptoSaid : Prop := footerFindsUptoRow.holds Try.pinned (OpenSpec.upto footerFindsSpec)

/-- 'tholepinlaw33.FooterAlone', WHERE WHAT IT READS IS OF BULK AT MOST 1048576: true; the input reads as it did. -/
def footerAloneUptoRow : OpenClaim := { program := "ytkhnfleejgfhgaa", sum := "3664ee7152b49abe83ef9e37a7acf05711beacf20f30217806a061b4b48065c3", func := "tholepin/tholepinlaw33.FooterAlone", spec := "footerAlone", unfollowed := true, recurses := true, apart := false, narrowed := true }
def FooterAloneUptoSaid : Prop := footerAloneUptoRow.holds Try.pinned (OpenSpec.upto footerAloneSpec)

/-- 'tholepinlaw33.FooterWrites', WHERE WHAT IT READS IS OF BULK AT MOST 1048576: true; the input reads as it did. -/
def footerWritesUptoRow : OpenClaim := { program := "ytkhnfleejgfhgaa", sum := "3664ee7152b49abe83ef9e37a7acf05711beacf20f30217806a061b4b48065c3", func := "tholepin/tholepinlaw33.FooterWrites", spec := "footerWrites", unfollowed := true, recurses := true, apart := false, narrowed := true }
def FooterWritesUptoSaid : Prop := footerWritesUptoRow.holds Try.pinned (OpenSpec.upto footerWritesSpec)

end Rows
end Go.Proofs.Ytkhnfleejgfhgaa
