/-
  No cell of these rows narrows 'for every input' (looked for: loops, veiled, ifaces, maps, wideKeys, modest, calm, conditions, laid).
  DERIVED. THE GIVEN ROWS OF THIS SEAT. 4 by the template 'for every input the law returns true; each argument reads behind the call as it read before'; 0 by the template 'total and deterministic' (their statements: YtnhggokeblijpaaTotals.lean).
  GIVEN WITH THE SEED: the statements are not yours to turn. If you find one false, say at which input.
  Laid BY PROGRAM, IN A SANDBOX (cutbox-rows.mjs): the forced cells as the released guide's own fill.sh prints them over the translation 05a28a63f650d04c… (all of the seat's roots in one cut). By AI agents, Wed Nov 11 2026. No macro, syntax, notation, axiom, sorry.
-/
import Derived.Test.YtnhggokeblijpaaChecked
import GoSem.Claim
import GoSem.ClaimJoined
import GoSem.ClaimMapViews
import Derived.JoinedTies
import Derived.KernelRfl
namespace Go.Proofs.Ytnhggokeblijpaa
/- THE CELL 'sum', in the pinned program and in every row, IS THE sha256 OF THE DUMP (.gsa) THAT YtnhggokeblijpaaProg.lean LOADS. Nothing in Lean hashes anything: it is a label: what it is worth is what the hold of that sum in a sandbox is worth. -/
noncomputable def Try.pinned : Pinned := { name := "ytnhggokeblijpaa", sum := "05a28a63f650d04c970e7f0ef6d8aec68c526851d07716c09a9a68e6f4a23949", checked := Try.checked }
namespace Rows
def none {H : Type} : Left H := { results := [], args := [] }

/-- 'laws.FnExactClassName': WHATEVER THE INPUT: true; the input reads as it did. -/
def fnExactClassNameSpec : ChangeSpec := { name := "fnExactClassName", fn := fun _ => fun
  | [d] => { results := [.lit (.bool true)], args := [d] }
  | _ => none }
def fnExactClassNameRow : OpenClaim := { program := "ytnhggokeblijpaa", sum := "05a28a63f650d04c970e7f0ef6d8aec68c526851d07716c09a9a68e6f4a23949", func := "loop.example/g01628/laws.FnExactClassName", spec := "fnExactClassName", apart := false }
def FnExactClassNameSaid : Prop := fnExactClassNameRow.holds Try.pinned (OpenSpec.ofChange fnExactClassNameSpec)

/-- ITS FALSE NEIGHBOUR: 'it returns false'. Refute it at one input. -/
def fnExactClassNameWrong : ChangeSpec := { name := "fnExactClassName", fn := fun _ => fun
  | [d] => { results := [.lit (.bool false)], args := [d] }
  | _ => none }
def FnExactClassNameWrongFalsely : Prop := fnExactClassNameRow.holds Try.pinned (OpenSpec.ofChange fnExactClassNameWrong)

/-- 'laws.FnExactSoloBound': WHATEVER THE INPUT: true; the input reads as it did. -/
def fnExactSoloBoundSpec : ChangeSpec := { name := "fnExactSoloBound", fn := fun _ => fun
  | [d] => { results := [.lit (.bool true)], args := [d] }
  | _ => none }
def fnExactSoloBoundRow : OpenClaim := { program := "ytnhggokeblijpaa", sum := "05a28a63f650d04c970e7f0ef6d8aec68c526851d07716c09a9a68e6f4a23949", func := "loop.example/g01628/laws.FnExactSoloBound", spec := "fnExactSoloBound", apart := false }
def FnExactSoloBoundSaid : Prop := fnExactSoloBoundRow.holds Try.pinned (OpenSpec.ofChange fnExactSoloBoundSpec)

/-- ITS FALSE NEIGHBOUR: 'it returns false'. Refute it at one input. -/
def fnExactSoloBoundWrong : ChangeSpec := { name := "fnExactSoloBound", fn := fun _ => fun
  | [d] => { results := [.lit (.bool false)], args := [d] }
  | _ => none }
def FnExactSoloBoundWrongFalsely : Prop := fnExactSoloBoundRow.holds Try.pinned (OpenSpec.ofChange fnExactSoloBoundWrong)

/-- 'laws.FnExactIsScript': WHATEVER THE INPUT: true; the input reads as it did. -/
def fnExactIsScriptSpec : ChangeSpec := { name := "fnExactIsScript", fn := fun _ => fun
  | [d] => { results := [.lit (.bool true)], args := [d] }
  | _ => none }
def fnExactIsScriptRow : OpenClaim := { program := "ytnhggokeblijpaa", sum := "05a28a63f650d04c970e7f0ef6d8aec68c526851d07716c09a9a68e6f4a23949", func := "loop.example/g01628/laws.FnExactIsScript", spec := "fnExactIsScript", unfollowed := true, recurses := true, apart := false }
def FnExactIsScriptSaid : Prop := fnExactIsScriptRow.holds Try.pinned (OpenSpec.ofChange fnExactIsScriptSpec)

/-- ITS FALSE NEIGHBOUR: 'it returns false'. Refute it at one input. -/
def fnExactIsScriptWrong : ChangeSpec := { name := "fnExactIsScript", fn := fun _ => fun
  | [d] => { results := [.lit (.bool false)], args := [d] }
  | _ => none }
def FnExactIsScriptWrongFalsely : Prop := fnExactIsScriptRow.holds Try.pinned (OpenSpec.ofChange fnExactIsScriptWrong)

/-- 'laws.FnExactWithPolicy': WHATEVER THE INPUT: true; the input reads as it did. -/
def fnExactWithPolicySpec : ChangeSpec := { name := "fnExactWithPolicy", fn := fun _ => fun
  | [d1, d2] => { results := [.lit (.bool true)], args := [d1, d2] }
  | _ => none }
def fnExactWithPolicyRow : OpenClaim := { program := "ytnhggokeblijpaa", sum := "05a28a63f650d04c970e7f0ef6d8aec68c526851d07716c09a9a68e6f4a23949", func := "loop.example/g01628/laws.FnExactWithPolicy", spec := "fnExactWithPolicy", apart := false }
def FnExactWithPolicySaid : Prop := fnExactWithPolicyRow.holds Try.pinned (OpenSpec.ofChange fnExactWithPolicySpec)

/-- ITS FALSE NEIGHBOUR: 'it returns false'. Refute it at one input. -/
def fnExactWithPolicyWrong : ChangeSpec := { name := "fnExactWithPolicy", fn := fun _ => fun
  | [d1, d2] => { results := [.lit (.bool false)], args := [d1, d2] }
  | _ => none }
def FnExactWithPolicyWrongFalsely : Prop := fnExactWithPolicyRow.holds Try.pinned (OpenSpec.ofChange fnExactWithPolicyWrong)

/- THE SECOND FORM. 'bulk': how many values and letters a reading holds, each counted each time it is reached (what is shared counts as often as it is met; a slice's spare places count too). A statement '..UptoSaid' is the law's where the arguments, and the package variables that the reading takes, are together of bulk at most 1048576: NARROWER than '..Said'. Prove '..Said' where nothing that the law and all that it calls make is longer than what came in: it says more and counts as full. Else prove '..UptoSaid'. A law counts once. -/
mutual
def uptoBulk {H : Type} : DataW H → Nat
  | .lit (.string bytes) => bytes.length + 1
  | .lit _ => 1
  | .nil => 1
  | .ptr d => uptoBulk d + 1
  | .slice elems spare => uptoBulkAll elems + uptoBulkAll spare + 1
  | .agg parts => uptoBulkAll parts + 1
  | .iface _ d => uptoBulk d + 1
  | .map entries => uptoBulkEntries entries + 1
  | .held _ => 1
def uptoBulkAll {H : Type} : List (DataW H) → Nat
  | [] => 0
  | d :: r => uptoBulk d + uptoBulkAll r
def uptoBulkEntries {H : Type} : List (Lit × DataW H) → Nat
  | [] => 0
  | x :: r => uptoBulkEntry x + uptoBulkEntries r
def uptoBulkEntry {H : Type} : Lit × DataW H → Nat
  | (.string bytes, d) => bytes.length + uptoBulk d + 1
  | (_, d) => uptoBulk d + 1
 end
def uptoSmall : (H : Type) → List (DataW H) → Bool := fun _ ds => decide (uptoBulkAll ds ≤ 1048576)
def OpenSpec.upto (s : _root_.Go.ChangeSpec) : _root_.Go.OpenSpec := { _root_.Go.OpenSpec.ofChange s with cond := some uptoSmall }

/-- 'laws.FnExactClassName', WHERE WHAT IT READS IS OF BULK AT MOST 1048576: true; the input reads as it did. -/
def fnExactClassNameUptoRow : OpenClaim := { program := "ytnhggokeblijpaa", sum := "05a28a63f650d04c970e7f0ef6d8aec68c526851d07716c09a9a68e6f4a23949", func := "loop.example/g01628/laws.FnExactClassName", spec := "fnExactClassName", apart := false, narrowed := true }
def FnExactClassNameUptoSaid : Prop := fnExactClassNameUptoRow.holds Try.pinned (OpenSpec.upto fnExactClassNameSpec)

/-- 'laws.FnExactSoloBound', WHERE WHAT IT READS IS OF BULK AT MOST 1048576: true; the input reads as it did. -/
def fnExactSoloBoundUptoRow : OpenClaim := { program := "ytnhggokeblijpaa", sum := "05a28a63f650d04c970e7f0ef6d8aec68c526851d07716c09a9a68e6f4a23949", func := "loop.example/g01628/laws.FnExactSoloBound", spec := "fnExactSoloBound", apart := false, narrowed := true }
def FnExactSoloBoundUptoSaid : Prop := fnExactSoloBoundUptoRow.holds Try.pinned (OpenSpec.upto fnExactSoloBoundSpec)

/-- 'laws.FnExactIsScript', WHERE WHAT IT READS IS OF BULK AT MOST 1048576: true; the input reads as it did. -/
def fnExactIsScriptUptoRow : OpenClaim := { program := "ytnhggokeblijpaa", sum := "05a28a63f650d04c970e7f0ef6d8aec68c526851d07716c09a9a68e6f4a23949", func := "loop.example/g01628/laws.FnExactIsScript", spec := "fnExactIsScript", unfollowed := true, recurses := true, apart := false, narrowed := true }
def FnExactIsScriptUptoSaid : Prop := fnExactIsScriptUptoRow.holds Try.pinned (OpenSpec.upto fnExactIsScriptSpec)

/-- 'laws.FnExactWithPolicy', WHERE WHAT IT READS IS OF BULK AT MOST 1048576: true; the input reads as it did. -/
def fnExactWithPolicyUptoRow : OpenClaim := { program := "ytnhggokeblijpaa", sum := "05a28a63f650d04c970e7f0ef6d8aec68c526851d07716c09a9a68e6f4a23949", func := "loop.example/g01628/laws.FnExactWithPolicy", spec := "fnExactWithPolicy", apart := false, narrowed := true }
def FnExactWithPolicyUptoSaid : Prop := fnExactWithPolicyUptoRow.holds Try.pinned (OpenSpec.upto fnExactWithPolicySpec)

end Rows
end Go.Proofs.Ytnhggokeblijpaa
