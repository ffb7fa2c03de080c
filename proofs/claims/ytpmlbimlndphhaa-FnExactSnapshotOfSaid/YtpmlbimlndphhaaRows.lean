/-
  No cell of these rows narrows 'for every input' (looked for: loops, veiled, ifaces, maps, wideKeys, modest, calm, conditions, laid).
  DERIVED. THE GIVEN ROWS OF THIS SEAT. 9 by the template 'for every input the law returns true; each argument reads behind the call as it read before'; 0 by the template 'total and deterministic' (their statements: YtpmlbimlndphhaaTotals.lean).
  GIVEN WITH THE SEED: the statements are not yours to turn. If you find one false, say at which input.
  Laid BY PROGRAM, IN A SANDBOX (cutbox-rows.mjs): the forced cells as the released guide's own fill.sh prints them over the translation 49c43743d5189b8b… (all of the seat's roots in one cut). By AI agents, Wed Nov 11 2026. No macro, syntax, notation, axiom, sorry.
-/
import Derived.Test.YtpmlbimlndphhaaChecked
import GoSem.Claim
import GoSem.ClaimJoined
import GoSem.ClaimMapViews
import Derived.JoinedTies
import Derived.KernelRfl
namespace Go.Proofs.Ytpmlbimlndphhaa
/- THE CELL 'sum', in the pinned program and in every row, IS THE sha256 OF THE DUMP (.gsa) THAT YtpmlbimlndphhaaProg.lean LOADS. Nothing in Lean hashes anything: it is a label: what it is worth is what the hold of that sum in a sandbox is worth. -/
noncomputable def Try.pinned : Pinned := { name := "ytpmlbimlndphhaa", sum := "49c43743d5189b8bd13e6f746689eb93a3452cd46c9c108f46aa26352d6d162f", checked := Try.checked }
namespace Rows
def none {H : Type} : Left H := { results := [], args := [] }

/-- 'laws.FnExactUnretired': WHATEVER THE INPUT: true; the input reads as it did. -/
def fnExactUnretiredSpec : ChangeSpec := { name := "fnExactUnretired", fn := fun _ => fun
  | [d] => { results := [.lit (.bool true)], args := [d] }
  | _ => none }
def fnExactUnretiredRow : OpenClaim := { program := "ytpmlbimlndphhaa", sum := "49c43743d5189b8bd13e6f746689eb93a3452cd46c9c108f46aa26352d6d162f", func := "loop.example/g01628/laws.FnExactUnretired", spec := "fnExactUnretired", unfollowed := true, recurses := true, apart := false }
def FnExactUnretiredSaid : Prop := fnExactUnretiredRow.holds Try.pinned (OpenSpec.ofChange fnExactUnretiredSpec)

/-- ITS FALSE NEIGHBOUR: 'it returns false'. Refute it at one input. -/
def fnExactUnretiredWrong : ChangeSpec := { name := "fnExactUnretired", fn := fun _ => fun
  | [d] => { results := [.lit (.bool false)], args := [d] }
  | _ => none }
def FnExactUnretiredWrongFalsely : Prop := fnExactUnretiredRow.holds Try.pinned (OpenSpec.ofChange fnExactUnretiredWrong)

/-- 'laws.FnExactSpaceBound': WHATEVER THE INPUT: true; the input reads as it did. -/
def fnExactSpaceBoundSpec : ChangeSpec := { name := "fnExactSpaceBound", fn := fun _ => fun
  | [d] => { results := [.lit (.bool true)], args := [d] }
  | _ => none }
def fnExactSpaceBoundRow : OpenClaim := { program := "ytpmlbimlndphhaa", sum := "49c43743d5189b8bd13e6f746689eb93a3452cd46c9c108f46aa26352d6d162f", func := "loop.example/g01628/laws.FnExactSpaceBound", spec := "fnExactSpaceBound", unfollowed := true, recurses := true, apart := false }
def FnExactSpaceBoundSaid : Prop := fnExactSpaceBoundRow.holds Try.pinned (OpenSpec.ofChange fnExactSpaceBoundSpec)

/-- ITS FALSE NEIGHBOUR: 'it returns false'. Refute it at one input. -/
def fnExactSpaceBoundWrong : ChangeSpec := { name := "fnExactSpaceBound", fn := fun _ => fun
  | [d] => { results := [.lit (.bool false)], args := [d] }
  | _ => none }
def FnExactSpaceBoundWrongFalsely : Prop := fnExactSpaceBoundRow.holds Try.pinned (OpenSpec.ofChange fnExactSpaceBoundWrong)

/-- 'laws.FnExactLiveSnapshots': WHATEVER THE INPUT: true; the input reads as it did. -/
def fnExactLiveSnapshotsSpec : ChangeSpec := { name := "fnExactLiveSnapshots", fn := fun _ => fun
  | [d] => { results := [.lit (.bool true)], args := [d] }
  | _ => none }
def fnExactLiveSnapshotsRow : OpenClaim := { program := "ytpmlbimlndphhaa", sum := "49c43743d5189b8bd13e6f746689eb93a3452cd46c9c108f46aa26352d6d162f", func := "loop.example/g01628/laws.FnExactLiveSnapshots", spec := "fnExactLiveSnapshots", unfollowed := true, recurses := true, apart := false }
def FnExactLiveSnapshotsSaid : Prop := fnExactLiveSnapshotsRow.holds Try.pinned (OpenSpec.ofChange fnExactLiveSnapshotsSpec)

/-- ITS FALSE NEIGHBOUR: 'it returns false'. Refute it at one input. -/
def fnExactLiveSnapshotsWrong : ChangeSpec := { name := "fnExactLiveSnapshots", fn := fun _ => fun
  | [d] => { results := [.lit (.bool false)], args := [d] }
  | _ => none }
def FnExactLiveSnapshotsWrongFalsely : Prop := fnExactLiveSnapshotsRow.holds Try.pinned (OpenSpec.ofChange fnExactLiveSnapshotsWrong)

/-- 'laws.FnExactClassOf': WHATEVER THE INPUT: true; the input reads as it did. -/
def fnExactClassOfSpec : ChangeSpec := { name := "fnExactClassOf", fn := fun _ => fun
  | [d1, d2] => { results := [.lit (.bool true)], args := [d1, d2] }
  | _ => none }
def fnExactClassOfRow : OpenClaim := { program := "ytpmlbimlndphhaa", sum := "49c43743d5189b8bd13e6f746689eb93a3452cd46c9c108f46aa26352d6d162f", func := "loop.example/g01628/laws.FnExactClassOf", spec := "fnExactClassOf", unfollowed := true, recurses := true, apart := false }
def FnExactClassOfSaid : Prop := fnExactClassOfRow.holds Try.pinned (OpenSpec.ofChange fnExactClassOfSpec)

/-- ITS FALSE NEIGHBOUR: 'it returns false'. Refute it at one input. -/
def fnExactClassOfWrong : ChangeSpec := { name := "fnExactClassOf", fn := fun _ => fun
  | [d1, d2] => { results := [.lit (.bool false)], args := [d1, d2] }
  | _ => none }
def FnExactClassOfWrongFalsely : Prop := fnExactClassOfRow.holds Try.pinned (OpenSpec.ofChange fnExactClassOfWrong)

/-- 'laws.FnExactCountClass': WHATEVER THE INPUT: true; the input reads as it did. -/
def fnExactCountClassSpec : ChangeSpec := { name := "fnExactCountClass", fn := fun _ => fun
  | [d1, d2] => { results := [.lit (.bool true)], args := [d1, d2] }
  | _ => none }
def fnExactCountClassRow : OpenClaim := { program := "ytpmlbimlndphhaa", sum := "49c43743d5189b8bd13e6f746689eb93a3452cd46c9c108f46aa26352d6d162f", func := "loop.example/g01628/laws.FnExactCountClass", spec := "fnExactCountClass", unfollowed := true, recurses := true, apart := false }
def FnExactCountClassSaid : Prop := fnExactCountClassRow.holds Try.pinned (OpenSpec.ofChange fnExactCountClassSpec)

/-- ITS FALSE NEIGHBOUR: 'it returns false'. Refute it at one input. -/
def fnExactCountClassWrong : ChangeSpec := { name := "fnExactCountClass", fn := fun _ => fun
  | [d1, d2] => { results := [.lit (.bool false)], args := [d1, d2] }
  | _ => none }
def FnExactCountClassWrongFalsely : Prop := fnExactCountClassRow.holds Try.pinned (OpenSpec.ofChange fnExactCountClassWrong)

/-- 'laws.FnExactIsConserved': WHATEVER THE INPUT: true; the input reads as it did. -/
def fnExactIsConservedSpec : ChangeSpec := { name := "fnExactIsConserved", fn := fun _ => fun
  | [d] => { results := [.lit (.bool true)], args := [d] }
  | _ => none }
def fnExactIsConservedRow : OpenClaim := { program := "ytpmlbimlndphhaa", sum := "49c43743d5189b8bd13e6f746689eb93a3452cd46c9c108f46aa26352d6d162f", func := "loop.example/g01628/laws.FnExactIsConserved", spec := "fnExactIsConserved", unfollowed := true, recurses := true, apart := false }
def FnExactIsConservedSaid : Prop := fnExactIsConservedRow.holds Try.pinned (OpenSpec.ofChange fnExactIsConservedSpec)

/-- ITS FALSE NEIGHBOUR: 'it returns false'. Refute it at one input. -/
def fnExactIsConservedWrong : ChangeSpec := { name := "fnExactIsConserved", fn := fun _ => fun
  | [d] => { results := [.lit (.bool false)], args := [d] }
  | _ => none }
def FnExactIsConservedWrongFalsely : Prop := fnExactIsConservedRow.holds Try.pinned (OpenSpec.ofChange fnExactIsConservedWrong)

/-- 'laws.FnExactSnapshotOf': WHATEVER THE INPUT: true; the input reads as it did. -/
def fnExactSnapshotOfSpec : ChangeSpec := { name := "fnExactSnapshotOf", fn := fun _ => fun
  | [d1, d2] => { results := [.lit (.bool true)], args := [d1, d2] }
  | _ => none }
def fnExactSnapshotOfRow : OpenClaim := { program := "ytpmlbimlndphhaa", sum := "49c43743d5189b8bd13e6f746689eb93a3452cd46c9c108f46aa26352d6d162f", func := "loop.example/g01628/laws.FnExactSnapshotOf", spec := "fnExactSnapshotOf", unfollowed := true, recurses := true, apart := false }
def FnExactSnapshotOfSaid : Prop := fnExactSnapshotOfRow.holds Try.pinned (OpenSpec.ofChange fnExactSnapshotOfSpec)

/-- ITS FALSE NEIGHBOUR: 'it returns false'. Refute it at one input. -/
def fnExactSnapshotOfWrong : ChangeSpec := { name := "fnExactSnapshotOf", fn := fun _ => fun
  | [d1, d2] => { results := [.lit (.bool false)], args := [d1, d2] }
  | _ => none }
def FnExactSnapshotOfWrongFalsely : Prop := fnExactSnapshotOfRow.holds Try.pinned (OpenSpec.ofChange fnExactSnapshotOfWrong)

/-- 'laws.FnExactAllocated': WHATEVER THE INPUT: true; the input reads as it did. -/
def fnExactAllocatedSpec : ChangeSpec := { name := "fnExactAllocated", fn := fun _ => fun
  | [d] => { results := [.lit (.bool true)], args := [d] }
  | _ => none }
def fnExactAllocatedRow : OpenClaim := { program := "ytpmlbimlndphhaa", sum := "49c43743d5189b8bd13e6f746689eb93a3452cd46c9c108f46aa26352d6d162f", func := "loop.example/g01628/laws.FnExactAllocated", spec := "fnExactAllocated", unfollowed := true, recurses := true, apart := false }
def FnExactAllocatedSaid : Prop := fnExactAllocatedRow.holds Try.pinned (OpenSpec.ofChange fnExactAllocatedSpec)

/-- ITS FALSE NEIGHBOUR: 'it returns false'. Refute it at one input. -/
def fnExactAllocatedWrong : ChangeSpec := { name := "fnExactAllocated", fn := fun _ => fun
  | [d] => { results := [.lit (.bool false)], args := [d] }
  | _ => none }
def FnExactAllocatedWrongFalsely : Prop := fnExactAllocatedRow.holds Try.pinned (OpenSpec.ofChange fnExactAllocatedWrong)

/-- 'laws.FnExactNeededNodes': WHATEVER THE INPUT: true; the input reads as it did. -/
def fnExactNeededNodesSpec : ChangeSpec := { name := "fnExactNeededNodes", fn := fun _ => fun
  | [d] => { results := [.lit (.bool true)], args := [d] }
  | _ => none }
def fnExactNeededNodesRow : OpenClaim := { program := "ytpmlbimlndphhaa", sum := "49c43743d5189b8bd13e6f746689eb93a3452cd46c9c108f46aa26352d6d162f", func := "loop.example/g01628/laws.FnExactNeededNodes", spec := "fnExactNeededNodes", unfollowed := true, recurses := true, apart := false }
def FnExactNeededNodesSaid : Prop := fnExactNeededNodesRow.holds Try.pinned (OpenSpec.ofChange fnExactNeededNodesSpec)

/-- ITS FALSE NEIGHBOUR: 'it returns false'. Refute it at one input. -/
def fnExactNeededNodesWrong : ChangeSpec := { name := "fnExactNeededNodes", fn := fun _ => fun
  | [d] => { results := [.lit (.bool false)], args := [d] }
  | _ => none }
def FnExactNeededNodesWrongFalsely : Prop := fnExactNeededNodesRow.holds Try.pinned (OpenSpec.ofChange fnExactNeededNodesWrong)

/- THE SECOND FORM. 'bulk': how many values and letters a reading holds, each counted each time it is reached (what is shared counts as often as it is met; a slice's spare places count too). A statement '..UptoSaid' is the law's where the arguments, and the package variables that the reading takes, are together of bulk at most 1048576: NARROWER than '..Said'. Prove '..Said' where nothing that the law and all that it calls make is longer than what came in: it says more and counts as full. Else prove '..UptoSaid'. A law counts once. -/
mutual
def uptoBulk {H : Type} : DataW H → Nat
  | .lit (.string bytes) => bytes.length + 1
  | .lit _ => 1
  | .nil => 1
  | .ptr d => uptoBulk d + 1
  | .slice elems spare => uptoBulkAll elems + uptoBulkAll spare + 1
  | .agg parts => uptoBulkAll parts + 1
  | .iface _ d => uptoBulk d + 1
  | .map entries => uptoBulkEntries entries + 1
  | .held _ => 1
def uptoBulkAll {H : Type} : List (DataW H) → Nat
  | [] => 0
  | d :: r => uptoBulk d + uptoBulkAll r
def uptoBulkEntries {H : Type} : List (Lit × DataW H) → Nat
  | [] => 0
  | x :: r => uptoBulkEntry x + uptoBulkEntries r
def uptoBulkEntry {H : Type} : Lit × DataW H → Nat
  | (.string bytes, d) => bytes.length + uptoBulk d + 1
  | (_, d) => uptoBulk d + 1
 end
def uptoSmall : (H : Type) → List (DataW H) → Bool := fun _ ds => decide (uptoBulkAll ds ≤ 1048576)
def OpenSpec.upto (s : _root_.Go.ChangeSpec) : _root_.Go.OpenSpec := { _root_.Go.OpenSpec.ofChange s with cond := some uptoSmall }

/-- 'laws.FnExactUnretired', WHERE WHAT IT READS IS OF BULK AT MOST 1048576: true; the input reads as it did. -/
def fnExactUnretiredUptoRow : OpenClaim := { program := "ytpmlbimlndphhaa", sum := "49c43743d5189b8bd13e6f746689eb93a3452cd46c9c108f46aa26352d6d162f", func := "loop.example/g01628/laws.FnExactUnretired", spec := "fnExactUnretired", unfollowed := true, recurses := true, apart := false, narrowed := true }
def FnExactUnretiredUptoSaid : Prop := fnExactUnretiredUptoRow.holds Try.pinned (OpenSpec.upto fnExactUnretiredSpec)

/-- 'laws.FnExactSpaceBound', WHERE WHAT IT READS IS OF BULK AT MOST 1048576: true; the input reads as it did. -/
def fnExactSpaceBoundUptoRow : OpenClaim := { program := "ytpmlbimlndphhaa", sum := "49c43743d5189b8bd13e6f746689eb93a3452cd46c9c108f46aa26352d6d162f", func := "loop.example/g01628/laws.FnExactSpaceBound", spec := "fnExactSpaceBound", unfollowed := true, recurses := true, apart := false, narrowed := true }
def FnExactSpaceBoundUptoSaid : Prop := fnExactSpaceBoundUptoRow.holds Try.pinned (OpenSpec.upto fnExactSpaceBoundSpec)

/-- 'laws.FnExactLiveSnapshots', WHERE WHAT IT READS IS OF BULK AT MOST 1048576: true; the input reads as it did. -/
def fnExactLiveSnapshotsUptoRow : OpenClaim := { program := "ytpmlbimlndphhaa", sum := "49c43743d5189b8bd13e6f746689eb93a3452cd46c9c108f46aa26352d6d162f", func := "loop.example/g01628/laws.FnExactLiveSnapshots", spec := "fnExactLiveSnapshots", unfollowed := true, recurses := true, apart := false, narrowed := true }
def FnExactLiveSnapshotsUptoSaid : Prop := fnExactLiveSnapshotsUptoRow.holds Try.pinned (OpenSpec.upto fnExactLiveSnapshotsSpec)

/-- 'laws.FnExactClassOf', WHERE WHAT IT READS IS OF BULK AT MOST 1048576: true; the input reads as it did. -/
def fnExactClassOfUptoRow : OpenClaim := { program := "ytpmlbimlndphhaa", sum := "49c43743d5189b8bd13e6f746689eb93a3452cd46c9c108f46aa26352d6d162f", func := "loop.example/g01628/laws.FnExactClassOf", spec := "fnExactClassOf", unfollowed := true, recurses := true, apart := false, narrowed := true }
def FnExactClassOfUptoSaid : Prop := fnExactClassOfUptoRow.holds Try.pinned (OpenSpec.upto fnExactClassOfSpec)

/-- 'laws.FnExactCountClass', WHERE WHAT IT READS IS OF BULK AT MOST 1048576: true; the input reads as it did. -/
def fnExactCountClassUptoRow : OpenClaim := { program := "ytpmlbimlndphhaa", sum := "49c43743d5189b8bd13e6f746689eb93a3452cd46c9c108f46aa26352d6d162f", func := "loop.example/g01628/laws.FnExactCountClass", spec := "fnExactCountClass", unfollowed := true, recurses := true, apart := false, narrowed := true }
def FnExactCountClassUptoSaid : Prop := fnExactCountClassUptoRow.holds Try.pinned (OpenSpec.upto fnExactCountClassSpec)

/-- 'laws.FnExactIsConserved', WHERE WHAT IT READS IS OF BULK AT MOST 1048576: true; the input reads as it did. -/
def fnExactIsConservedUptoRow : OpenClaim := { program := "ytpmlbimlndphhaa", sum := "49c43743d5189b8bd13e6f746689eb93a3452cd46c9c108f46aa26352d6d162f", func := "loop.example/g01628/laws.FnExactIsConserved", spec := "fnExactIsConserved", unfollowed := true, recurses := true, apart := false, narrowed := true }
def FnExactIsConservedUptoSaid : Prop := fnExactIsConservedUptoRow.holds Try.pinned (OpenSpec.upto fnExactIsConservedSpec)

/-- 'laws.FnExactSnapshotOf', WHERE WHAT IT READS IS OF BULK AT MOST 1048576: true; the input reads as it did. -/
def fnExactSnapshotOfUptoRow : OpenClaim := { program := "ytpmlbimlndphhaa", sum := "49c43743d5189b8bd13e6f746689eb93a3452cd46c9c108f46aa26352d6d162f", func := "loop.example/g01628/laws.FnExactSnapshotOf", spec := "fnExactSnapshotOf", unfollowed := true, recurses := true, apart := false, narrowed := true }
def FnExactSnapshotOfUptoSaid : Prop := fnExactSnapshotOfUptoRow.holds Try.pinned (OpenSpec.upto fnExactSnapshotOfSpec)

/-- 'laws.FnExactAllocated', WHERE WHAT IT READS IS OF BULK AT MOST 1048576: true; the input reads as it did. -/
def fnExactAllocatedUptoRow : OpenClaim := { program := "ytpmlbimlndphhaa", sum := "49c43743d5189b8bd13e6f746689eb93a3452cd46c9c108f46aa26352d6d162f", func := "loop.example/g01628/laws.FnExactAllocated", spec := "fnExactAllocated", unfollowed := true, recurses := true, apart := false, narrowed := true }
def FnExactAllocatedUptoSaid : Prop := fnExactAllocatedUptoRow.holds Try.pinned (OpenSpec.upto fnExactAllocatedSpec)

/-- 'laws.FnExactNeededNodes', WHERE WHAT IT READS IS OF BULK AT MOST 1048576: true; the input reads as it did. -/
def fnExactNeededNodesUptoRow : OpenClaim := { program := "ytpmlbimlndphhaa", sum := "49c43743d5189b8bd13e6f746689eb93a3452cd46c9c108f46aa26352d6d162f", func := "loop.example/g01628/laws.FnExactNeededNodes", spec := "fnExactNeededNodes", unfollowed := true, recurses := true, apart := false, narrowed := true }
def FnExactNeededNodesUptoSaid : Prop := fnExactNeededNodesUptoRow.holds Try.pinned (OpenSpec.upto fnExactNeededNodesSpec)

end Rows
end Go.Proofs.Ytpmlbimlndphhaa
