/-
  No cell of these rows narrows 'for every input' (looked for: loops, veiled, ifaces, maps, wideKeys, modest, calm, conditions, laid).
  DERIVED. THE GIVEN ROWS OF THIS SEAT. 12 by the template 'for every input the law returns true; each argument reads behind the call as it read before'; 0 by the template 'total and deterministic' (their statements: YtbploohjimpcaaaGreatTotals.lean).
  GIVEN WITH THE SEED: the statements are not yours to turn. If you find one false, say at which input.
  Laid BY PROGRAM, IN A SANDBOX (cutbox-rows.mjs): the forced cells as the released guide's own fill.sh prints them over the translation d3d4dd66f6e52b62… (all of the seat's roots in one cut). By AI agents, Wed Nov 11 2026. No macro, syntax, notation, axiom, sorry.
-/
import Derived.Test.YtbploohjimpcaaaGreatChecked
import GoSem.Claim
import GoSem.ClaimJoined
import GoSem.ClaimMapViews
import Derived.JoinedTies
import Derived.KernelRfl
namespace Go.Proofs.YtbploohjimpcaaaGreat
/- THE CELL 'sum', in the pinned program and in every row, IS THE sha256 OF THE DUMP (.gsa) THAT YtbploohjimpcaaaGreatProg.lean LOADS. Nothing in Lean hashes anything: it is a label: what it is worth is what the hold of that sum in a sandbox is worth. -/
noncomputable def Tryz.pinned : Pinned := { name := "ytbploohjimpcaaagreat", sum := "d3d4dd66f6e52b62be24f581ed8684ecef67c6823b064fd07c6baffada606393", checked := Tryz.checked }
namespace Rows
def none {H : Type} : Left H := { results := [], args := [] }

/-- 'laws.FnExactRunScript': WHATEVER THE INPUT: true; the input reads as it did. -/
def fnExactRunScriptSpec : ChangeSpec := { name := "fnExactRunScript", fn := fun _ => fun
  | [d] => { results := [.lit (.bool true)], args := [d] }
  | _ => none }
def fnExactRunScriptRow : OpenClaim := { program := "ytbploohjimpcaaagreat", sum := "d3d4dd66f6e52b62be24f581ed8684ecef67c6823b064fd07c6baffada606393", func := "loop.example/g01628/laws.FnExactRunScript", spec := "fnExactRunScript", unfollowed := true, recurses := true, apart := false }
def FnExactRunScriptSaid : Prop := fnExactRunScriptRow.holds Tryz.pinned (OpenSpec.ofChange fnExactRunScriptSpec)

/-- ITS FALSE NEIGHBOUR: 'it returns false'. Refute it at one input. -/
def fnExactRunScriptWrong : ChangeSpec := { name := "fnExactRunScript", fn := fun _ => fun
  | [d] => { results := [.lit (.bool false)], args := [d] }
  | _ => none }
def FnExactRunScriptWrongFalsely : Prop := fnExactRunScriptRow.holds Tryz.pinned (OpenSpec.ofChange fnExactRunScriptWrong)

/-- 'laws.FnExactFinishScript': WHATEVER THE INPUT: true; the input reads as it did. -/
def fnExactFinishScriptSpec : ChangeSpec := { name := "fnExactFinishScript", fn := fun _ => fun
  | [d] => { results := [.lit (.bool true)], args := [d] }
  | _ => none }
def fnExactFinishScriptRow : OpenClaim := { program := "ytbploohjimpcaaagreat", sum := "d3d4dd66f6e52b62be24f581ed8684ecef67c6823b064fd07c6baffada606393", func := "loop.example/g01628/laws.FnExactFinishScript", spec := "fnExactFinishScript", unfollowed := true, recurses := true, apart := false }
def FnExactFinishScriptSaid : Prop := fnExactFinishScriptRow.holds Tryz.pinned (OpenSpec.ofChange fnExactFinishScriptSpec)

/-- ITS FALSE NEIGHBOUR: 'it returns false'. Refute it at one input. -/
def fnExactFinishScriptWrong : ChangeSpec := { name := "fnExactFinishScript", fn := fun _ => fun
  | [d] => { results := [.lit (.bool false)], args := [d] }
  | _ => none }
def FnExactFinishScriptWrongFalsely : Prop := fnExactFinishScriptRow.holds Tryz.pinned (OpenSpec.ofChange fnExactFinishScriptWrong)

/-- 'laws.FnExactSummaryOf': WHATEVER THE INPUT: true; the input reads as it did. -/
def fnExactSummaryOfSpec : ChangeSpec := { name := "fnExactSummaryOf", fn := fun _ => fun
  | [d] => { results := [.lit (.bool true)], args := [d] }
  | _ => none }
def fnExactSummaryOfRow : OpenClaim := { program := "ytbploohjimpcaaagreat", sum := "d3d4dd66f6e52b62be24f581ed8684ecef67c6823b064fd07c6baffada606393", func := "loop.example/g01628/laws.FnExactSummaryOf", spec := "fnExactSummaryOf", unfollowed := true, recurses := true, apart := false }
def FnExactSummaryOfSaid : Prop := fnExactSummaryOfRow.holds Tryz.pinned (OpenSpec.ofChange fnExactSummaryOfSpec)

/-- ITS FALSE NEIGHBOUR: 'it returns false'. Refute it at one input. -/
def fnExactSummaryOfWrong : ChangeSpec := { name := "fnExactSummaryOf", fn := fun _ => fun
  | [d] => { results := [.lit (.bool false)], args := [d] }
  | _ => none }
def FnExactSummaryOfWrongFalsely : Prop := fnExactSummaryOfRow.holds Tryz.pinned (OpenSpec.ofChange fnExactSummaryOfWrong)

/-- 'laws.FnExactComparePolicies': WHATEVER THE INPUT: true; the input reads as it did. -/
def fnExactComparePoliciesSpec : ChangeSpec := { name := "fnExactComparePolicies", fn := fun _ => fun
  | [d] => { results := [.lit (.bool true)], args := [d] }
  | _ => none }
def fnExactComparePoliciesRow : OpenClaim := { program := "ytbploohjimpcaaagreat", sum := "d3d4dd66f6e52b62be24f581ed8684ecef67c6823b064fd07c6baffada606393", func := "loop.example/g01628/laws.FnExactComparePolicies", spec := "fnExactComparePolicies", unfollowed := true, recurses := true, apart := false }
def FnExactComparePoliciesSaid : Prop := fnExactComparePoliciesRow.holds Tryz.pinned (OpenSpec.ofChange fnExactComparePoliciesSpec)

/-- ITS FALSE NEIGHBOUR: 'it returns false'. Refute it at one input. -/
def fnExactComparePoliciesWrong : ChangeSpec := { name := "fnExactComparePolicies", fn := fun _ => fun
  | [d] => { results := [.lit (.bool false)], args := [d] }
  | _ => none }
def FnExactComparePoliciesWrongFalsely : Prop := fnExactComparePoliciesRow.holds Tryz.pinned (OpenSpec.ofChange fnExactComparePoliciesWrong)

/-- 'laws.FnExactBestPolicy': WHATEVER THE INPUT: true; the input reads as it did. -/
def fnExactBestPolicySpec : ChangeSpec := { name := "fnExactBestPolicy", fn := fun _ => fun
  | [d] => { results := [.lit (.bool true)], args := [d] }
  | _ => none }
def fnExactBestPolicyRow : OpenClaim := { program := "ytbploohjimpcaaagreat", sum := "d3d4dd66f6e52b62be24f581ed8684ecef67c6823b064fd07c6baffada606393", func := "loop.example/g01628/laws.FnExactBestPolicy", spec := "fnExactBestPolicy", unfollowed := true, recurses := true, apart := false }
def FnExactBestPolicySaid : Prop := fnExactBestPolicyRow.holds Tryz.pinned (OpenSpec.ofChange fnExactBestPolicySpec)

/-- ITS FALSE NEIGHBOUR: 'it returns false'. Refute it at one input. -/
def fnExactBestPolicyWrong : ChangeSpec := { name := "fnExactBestPolicy", fn := fun _ => fun
  | [d] => { results := [.lit (.bool false)], args := [d] }
  | _ => none }
def FnExactBestPolicyWrongFalsely : Prop := fnExactBestPolicyRow.holds Tryz.pinned (OpenSpec.ofChange fnExactBestPolicyWrong)

/-- 'laws.FnExactExploreSwitches': WHATEVER THE INPUT: true; the input reads as it did. -/
def fnExactExploreSwitchesSpec : ChangeSpec := { name := "fnExactExploreSwitches", fn := fun _ => fun
  | [d1, d2, d3, d4] => { results := [.lit (.bool true)], args := [d1, d2, d3, d4] }
  | _ => none }
def fnExactExploreSwitchesRow : OpenClaim := { program := "ytbploohjimpcaaagreat", sum := "d3d4dd66f6e52b62be24f581ed8684ecef67c6823b064fd07c6baffada606393", func := "loop.example/g01628/laws.FnExactExploreSwitches", spec := "fnExactExploreSwitches", unfollowed := true, recurses := true, apart := false }
def FnExactExploreSwitchesSaid : Prop := fnExactExploreSwitchesRow.holds Tryz.pinned (OpenSpec.ofChange fnExactExploreSwitchesSpec)

/-- ITS FALSE NEIGHBOUR: 'it returns false'. Refute it at one input. -/
def fnExactExploreSwitchesWrong : ChangeSpec := { name := "fnExactExploreSwitches", fn := fun _ => fun
  | [d1, d2, d3, d4] => { results := [.lit (.bool false)], args := [d1, d2, d3, d4] }
  | _ => none }
def FnExactExploreSwitchesWrongFalsely : Prop := fnExactExploreSwitchesRow.holds Tryz.pinned (OpenSpec.ofChange fnExactExploreSwitchesWrong)

/-- 'laws.FnExactExplore': WHATEVER THE INPUT: true; the input reads as it did. -/
def fnExactExploreSpec : ChangeSpec := { name := "fnExactExplore", fn := fun _ => fun
  | [d1, d2, d3] => { results := [.lit (.bool true)], args := [d1, d2, d3] }
  | _ => none }
def fnExactExploreRow : OpenClaim := { program := "ytbploohjimpcaaagreat", sum := "d3d4dd66f6e52b62be24f581ed8684ecef67c6823b064fd07c6baffada606393", func := "loop.example/g01628/laws.FnExactExplore", spec := "fnExactExplore", unfollowed := true, recurses := true, apart := false }
def FnExactExploreSaid : Prop := fnExactExploreRow.holds Tryz.pinned (OpenSpec.ofChange fnExactExploreSpec)

/-- ITS FALSE NEIGHBOUR: 'it returns false'. Refute it at one input. -/
def fnExactExploreWrong : ChangeSpec := { name := "fnExactExplore", fn := fun _ => fun
  | [d1, d2, d3] => { results := [.lit (.bool false)], args := [d1, d2, d3] }
  | _ => none }
def FnExactExploreWrongFalsely : Prop := fnExactExploreRow.holds Tryz.pinned (OpenSpec.ofChange fnExactExploreWrong)

/-- 'laws.FnRetries': WHATEVER THE INPUT: true; the input reads as it did. -/
def fnRetriesSpec : ChangeSpec := { name := "fnRetries", fn := fun _ => fun
  | [d] => { results := [.lit (.bool true)], args := [d] }
  | _ => none }
def fnRetriesRow : OpenClaim := { program := "ytbploohjimpcaaagreat", sum := "d3d4dd66f6e52b62be24f581ed8684ecef67c6823b064fd07c6baffada606393", func := "loop.example/g01628/laws.FnRetries", spec := "fnRetries", unfollowed := true, recurses := true, apart := false }
def FnRetriesSaid : Prop := fnRetriesRow.holds Tryz.pinned (OpenSpec.ofChange fnRetriesSpec)

/-- ITS FALSE NEIGHBOUR: 'it returns false'. Refute it at one input. -/
def fnRetriesWrong : ChangeSpec := { name := "fnRetries", fn := fun _ => fun
  | [d] => { results := [.lit (.bool false)], args := [d] }
  | _ => none }
def FnRetriesWrongFalsely : Prop := fnRetriesRow.holds Tryz.pinned (OpenSpec.ofChange fnRetriesWrong)

/-- 'laws.FnClock': WHATEVER THE INPUT: true; the input reads as it did. -/
def fnClockSpec : ChangeSpec := { name := "fnClock", fn := fun _ => fun
  | [d] => { results := [.lit (.bool true)], args := [d] }
  | _ => none }
def fnClockRow : OpenClaim := { program := "ytbploohjimpcaaagreat", sum := "d3d4dd66f6e52b62be24f581ed8684ecef67c6823b064fd07c6baffada606393", func := "loop.example/g01628/laws.FnClock", spec := "fnClock", unfollowed := true, recurses := true, apart := false }
def FnClockSaid : Prop := fnClockRow.holds Tryz.pinned (OpenSpec.ofChange fnClockSpec)

/-- ITS FALSE NEIGHBOUR: 'it returns false'. Refute it at one input. -/
def fnClockWrong : ChangeSpec := { name := "fnClock", fn := fun _ => fun
  | [d] => { results := [.lit (.bool false)], args := [d] }
  | _ => none }
def FnClockWrongFalsely : Prop := fnClockRow.holds Tryz.pinned (OpenSpec.ofChange fnClockWrong)

/-- 'laws.FnFullOnly': WHATEVER THE INPUT: true; the input reads as it did. -/
def fnFullOnlySpec : ChangeSpec := { name := "fnFullOnly", fn := fun _ => fun
  | [d] => { results := [.lit (.bool true)], args := [d] }
  | _ => none }
def fnFullOnlyRow : OpenClaim := { program := "ytbploohjimpcaaagreat", sum := "d3d4dd66f6e52b62be24f581ed8684ecef67c6823b064fd07c6baffada606393", func := "loop.example/g01628/laws.FnFullOnly", spec := "fnFullOnly", unfollowed := true, recurses := true, apart := false }
def FnFullOnlySaid : Prop := fnFullOnlyRow.holds Tryz.pinned (OpenSpec.ofChange fnFullOnlySpec)

/-- ITS FALSE NEIGHBOUR: 'it returns false'. Refute it at one input. -/
def fnFullOnlyWrong : ChangeSpec := { name := "fnFullOnly", fn := fun _ => fun
  | [d] => { results := [.lit (.bool false)], args := [d] }
  | _ => none }
def FnFullOnlyWrongFalsely : Prop := fnFullOnlyRow.holds Tryz.pinned (OpenSpec.ofChange fnFullOnlyWrong)

/-- 'laws.FnTop': WHATEVER THE INPUT: true; the input reads as it did. -/
def fnTopSpec : ChangeSpec := { name := "fnTop", fn := fun _ => fun
  | [d] => { results := [.lit (.bool true)], args := [d] }
  | _ => none }
def fnTopRow : OpenClaim := { program := "ytbploohjimpcaaagreat", sum := "d3d4dd66f6e52b62be24f581ed8684ecef67c6823b064fd07c6baffada606393", func := "loop.example/g01628/laws.FnTop", spec := "fnTop", unfollowed := true, recurses := true, apart := false }
def FnTopSaid : Prop := fnTopRow.holds Tryz.pinned (OpenSpec.ofChange fnTopSpec)

/-- ITS FALSE NEIGHBOUR: 'it returns false'. Refute it at one input. -/
def fnTopWrong : ChangeSpec := { name := "fnTop", fn := fun _ => fun
  | [d] => { results := [.lit (.bool false)], args := [d] }
  | _ => none }
def FnTopWrongFalsely : Prop := fnTopRow.holds Tryz.pinned (OpenSpec.ofChange fnTopWrong)

/-- 'laws.FnSpace': WHATEVER THE INPUT: true; the input reads as it did. -/
def fnSpaceSpec : ChangeSpec := { name := "fnSpace", fn := fun _ => fun
  | [d] => { results := [.lit (.bool true)], args := [d] }
  | _ => none }
def fnSpaceRow : OpenClaim := { program := "ytbploohjimpcaaagreat", sum := "d3d4dd66f6e52b62be24f581ed8684ecef67c6823b064fd07c6baffada606393", func := "loop.example/g01628/laws.FnSpace", spec := "fnSpace", unfollowed := true, recurses := true, apart := false }
def FnSpaceSaid : Prop := fnSpaceRow.holds Tryz.pinned (OpenSpec.ofChange fnSpaceSpec)

/-- ITS FALSE NEIGHBOUR: 'it returns false'. Refute it at one input. -/
def fnSpaceWrong : ChangeSpec := { name := "fnSpace", fn := fun _ => fun
  | [d] => { results := [.lit (.bool false)], args := [d] }
  | _ => none }
def FnSpaceWrongFalsely : Prop := fnSpaceRow.holds Tryz.pinned (OpenSpec.ofChange fnSpaceWrong)

/- THE SECOND FORM. 'bulk': how many values and letters a reading holds, each counted each time it is reached (what is shared counts as often as it is met; a slice's spare places count too). A statement '..UptoSaid' is the law's where the arguments, and the package variables that the reading takes, are together of bulk at most 1048576: NARROWER than '..Said'. Prove '..Said' where nothing that the law and all that it calls make is longer than what came in: it says more and counts as full. Else prove '..UptoSaid'. A law counts once. -/
mutual
def uptoBulk {H : Type} : DataW H → Nat
  | .lit (.string bytes) => bytes.length + 1
  | .lit _ => 1
  | .nil => 1
  | .ptr d => uptoBulk d + 1
  | .slice elems spare => uptoBulkAll elems + uptoBulkAll spare + 1
  | .agg parts => uptoBulkAll parts + 1
  | .iface _ d => uptoBulk d + 1
  | .map entries => uptoBulkEntries entries + 1
  | .held _ => 1
def uptoBulkAll {H : Type} : List (DataW H) → Nat
  | [] => 0
  | d :: r => uptoBulk d + uptoBulkAll r
def uptoBulkEntries {H : Type} : List (Lit × DataW H) → Nat
  | [] => 0
  | x :: r => uptoBulkEntry x + uptoBulkEntries r
def uptoBulkEntry {H : Type} : Lit × DataW H → Nat
  | (.string bytes, d) => bytes.length + uptoBulk d + 1
  | (_, d) => uptoBulk d + 1
 end
def uptoSmall : (H : Type) → List (DataW H) → Bool := fun _ ds => decide (uptoBulkAll ds ≤ 1048576)
def OpenSpec.upto (s : _root_.Go.ChangeSpec) : _root_.Go.OpenSpec := { _root_.Go.OpenSpec.ofChange s with cond := some uptoSmall }

/-- 'laws.FnExactRunScript', WHERE WHAT IT READS IS OF BULK AT MOST 1048576: true; the input reads as it did. -/
def fnExactRunScriptUptoRow : OpenClaim := { program := "ytbploohjimpcaaagreat", sum := "d3d4dd66f6e52b62be24f581ed8684ecef67c6823b064fd07c6baffada606393", func := "loop.example/g01628/laws.FnExactRunScript", spec := "fnExactRunScript", unfollowed := true, recurses := true, apart := false, narrowed := true }
def FnExactRunScriptUptoSaid : Prop := fnExactRunScriptUptoRow.holds Tryz.pinned (OpenSpec.upto fnExactRunScriptSpec)

/-- 'laws.FnExactFinishScript', WHERE WHAT IT READS IS OF BULK AT MOST 1048576: true; the input reads as it did. -/
def fnExactFinishScriptUptoRow : OpenClaim := { program := "ytbploohjimpcaaagreat", sum := "d3d4dd66f6e52b62be24f581ed8684ecef67c6823b064fd07c6baffada606393", func := "loop.example/g01628/laws.FnExactFinishScript", spec := "fnExactFinishScript", unfollowed := true, recurses := true, apart := false, narrowed := true }
def FnExactFinishScriptUptoSaid : Prop := fnExactFinishScriptUptoRow.holds Tryz.pinned (OpenSpec.upto fnExactFinishScriptSpec)

/-- 'laws.FnExactSummaryOf', WHERE WHAT IT READS IS OF BULK AT MOST 1048576: true; the input reads as it did. -/
def fnExactSummaryOfUptoRow : OpenClaim := { program := "ytbploohjimpcaaagreat", sum := "d3d4dd66f6e52b62be24f581ed8684ecef67c6823b064fd07c6baffada606393", func := "loop.example/g01628/laws.FnExactSummaryOf", spec := "fnExactSummaryOf", unfollowed := true, recurses := true, apart := false, narrowed := true }
def FnExactSummaryOfUptoSaid : Prop := fnExactSummaryOfUptoRow.holds Tryz.pinned (OpenSpec.upto fnExactSummaryOfSpec)

/-- 'laws.FnExactComparePolicies', WHERE WHAT IT READS IS OF BULK AT MOST 1048576: true; the input reads as it did. -/
def fnExactComparePoliciesUptoRow : OpenClaim := { program := "ytbploohjimpcaaagreat", sum := "d3d4dd66f6e52b62be24f581ed8684ecef67c6823b064fd07c6baffada606393", func := "loop.example/g01628/laws.FnExactComparePolicies", spec := "fnExactComparePolicies", unfollowed := true, recurses := true, apart := false, narrowed := true }
def FnExactComparePoliciesUptoSaid : Prop := fnExactComparePoliciesUptoRow.holds Tryz.pinned (OpenSpec.upto fnExactComparePoliciesSpec)

/-- 'laws.FnExactBestPolicy', WHERE WHAT IT READS IS OF BULK AT MOST 1048576: true; the input reads as it did. -/
def fnExactBestPolicyUptoRow : OpenClaim := { program := "ytbploohjimpcaaagreat", sum := "d3d4dd66f6e52b62be24f581ed8684ecef67c6823b064fd07c6baffada606393", func := "loop.example/g01628/laws.FnExactBestPolicy", spec := "fnExactBestPolicy", unfollowed := true, recurses := true, apart := false, narrowed := true }
def FnExactBestPolicyUptoSaid : Prop := fnExactBestPolicyUptoRow.holds Tryz.pinned (OpenSpec.upto fnExactBestPolicySpec)

/-- 'laws.FnExactExploreSwitches', WHERE WHAT IT READS IS OF BULK AT MOST 1048576: true; the input reads as it did. -/
def fnExactExploreSwitchesUptoRow : OpenClaim := { program := "ytbploohjimpcaaagreat", sum := "d3d4dd66f6e52b62be24f581ed8684ecef67c6823b064fd07c6baffada606393", func := "loop.example/g01628/laws.FnExactExploreSwitches", spec := "fnExactExploreSwitches", unfollowed := true, recurses := true, apart := false, narrowed := true }
def FnExactExploreSwitchesUptoSaid : Prop := fnExactExploreSwitchesUptoRow.holds Tryz.pinned (OpenSpec.upto fnExactExploreSwitchesSpec)

/-- 'laws.FnExactExplore', WHERE WHAT IT READS IS OF BULK AT MOST 1048576: true; the input reads as it did. -/
def fnExactExploreUptoRow : OpenClaim := { program := "ytbploohjimpcaaagreat", sum := "d3d4dd66f6e52b62be24f581ed8684ecef67c6823b064fd07c6baffada606393", func := "loop.example/g01628/laws.FnExactExplore", spec := "fnExactExplore", unfollowed := true, recurses := true, apart := false, narrowed := true }
def FnExactExploreUptoSaid : Prop := fnExactExploreUptoRow.holds Tryz.pinned (OpenSpec.upto fnExactExploreSpec)

/-- 'laws.FnRetries', WHERE WHAT IT READS IS OF BULK AT MOST 1048576: true; the input reads as it did. -/
def fnRetriesUptoRow : OpenClaim := { program := "ytbploohjimpcaaagreat", sum := "d3d4dd66f6e52b62be24f581ed8684ecef67c6823b064fd07c6baffada606393", func := "loop.example/g01628/laws.FnRetries", spec := "fnRetries", unfollowed := true, recurses := true, apart := false, narrowed := true }
def FnRetriesUptoSaid : Prop := fnRetriesUptoRow.holds Tryz.pinned (OpenSpec.upto fnRetriesSpec)

/-- 'laws.FnClock', WHERE WHAT IT READS IS OF BULK AT MOST 1048576: true; the input reads as it did. -/
def fnClockUptoRow : OpenClaim := { program := "ytbploohjimpcaaagreat", sum := "d3d4dd66f6e52b62be24f581ed8684ecef67c6823b064fd07c6baffada606393", func := "loop.example/g01628/laws.FnClock", spec := "fnClock", unfollowed := true, recurses := true, apart := false, narrowed := true }
def FnClockUptoSaid : Prop := fnClockUptoRow.holds Tryz.pinned (OpenSpec.upto fnClockSpec)

/-- 'laws.FnFullOnly', WHERE WHAT IT READS IS OF BULK AT MOST 1048576: true; the input reads as it did. -/
def fnFullOnlyUptoRow : OpenClaim := { program := "ytbploohjimpcaaagreat", sum := "d3d4dd66f6e52b62be24f581ed8684ecef67c6823b064fd07c6baffada606393", func := "loop.example/g01628/laws.FnFullOnly", spec := "fnFullOnly", unfollowed := true, recurses := true, apart := false, narrowed := true }
def FnFullOnlyUptoSaid : Prop := fnFullOnlyUptoRow.holds Tryz.pinned (OpenSpec.upto fnFullOnlySpec)

/-- 'laws.FnTop', WHERE WHAT IT READS IS OF BULK AT MOST 1048576: true; the input reads as it did. -/
def fnTopUptoRow : OpenClaim := { program := "ytbploohjimpcaaagreat", sum := "d3d4dd66f6e52b62be24f581ed8684ecef67c6823b064fd07c6baffada606393", func := "loop.example/g01628/laws.FnTop", spec := "fnTop", unfollowed := true, recurses := true, apart := false, narrowed := true }
def FnTopUptoSaid : Prop := fnTopUptoRow.holds Tryz.pinned (OpenSpec.upto fnTopSpec)

/-- 'laws.FnSpace', WHERE WHAT IT READS IS OF BULK AT MOST 1048576: true; the input reads as it did. -/
def fnSpaceUptoRow : OpenClaim := { program := "ytbploohjimpcaaagreat", sum := "d3d4dd66f6e52b62be24f581ed8684ecef67c6823b064fd07c6baffada606393", func := "loop.example/g01628/laws.FnSpace", spec := "fnSpace", unfollowed := true, recurses := true, apart := false, narrowed := true }
def FnSpaceUptoSaid : Prop := fnSpaceUptoRow.holds Tryz.pinned (OpenSpec.upto fnSpaceSpec)

end Rows
end Go.Proofs.YtbploohjimpcaaaGreat
