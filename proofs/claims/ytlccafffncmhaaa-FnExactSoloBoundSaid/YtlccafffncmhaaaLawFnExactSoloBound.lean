/- SoloBound of the program answers what the reference answers, for every configuration: no condition. -/
import Derived.Test.YtlccafffncmhaaaRows
import Derived.Test.YtlccafffncmhaaaFn0
import Derived.WalkKit
import Derived.ProofKit
import Derived.SizedLaws
namespace Go.Proofs.Ytlccafffncmhaaa.fnExactSoloBound
open Go Go.Abs
open Go.ChangeShapes Go.WideShapes Go.ChangeAt Go.RowKit
theorem own : ownKnob Try.prog.godebug = none := by kernel_rfl
theorem laid : laidOutB Try.prog = true := by kernel_rfl
theorem tyC {avs : List AV} (h : Ty A.tys 9 25 avs) : ∃ a b c d e f : Int, avs = A.cfgA a b c d e f := by
  obtain ⟨_, _, rfl, ⟨a, rfl, _⟩, _, _, rfl, ⟨b, rfl, _⟩, _, _, rfl, ⟨c, rfl, _⟩, _, _, rfl, ⟨d, rfl, _⟩, _, _, rfl, ⟨e, rfl, _⟩, _, _, rfl, ⟨f, rfl, _⟩, rfl⟩ := h
  exact ⟨a, b, c, d, e, f, rfl⟩
theorem answers (xs : List AV) (h : TyArgs A.cfg.ty [25] xs) : ∃ n out, callP A.cfg n 4 xs = some ⟨.bool true, out⟩ := by
  cases h with
  | cons hx h1 h2 =>
    cases h2
    cases hx
    obtain ⟨a, b, c, d, e, f, rfl⟩ := tyC h1
    exact ⟨4, [], A.f4 0 a b c d e f⟩
set_option maxRecDepth 100000 in
theorem lifted (os : Os) (started : os.Started) (H : Type) (enc : TypeId × Value → H) :
    ReturnsInHanded {} Try.checked os 4 .any (Rows.fnExactSoloBoundSpec.pre6 enc Try.prog Try.f4 Rows.fnExactSoloBoundRow.domain false) (Rows.fnExactSoloBoundSpec.post enc Try.prog Try.f4 false true false false) := by
  refine returnsInHanded_of_change_sized (C := Try.checked) own started (by kernel_rfl) Try.func4
    (ChangeSpec.witness6 (enc := enc) (C := Try.checked) false ⟨#[], #[.agg #[.int .i64 0, .int .i64 0, .int .i64 0, .int .i64 0, .int .i64 0, .int .i64 0]], []⟩ 8 (by kernel_rfl) (by kernel_rfl) (by kernel_rfl) (by kernel_rfl)) ?_
  intro W base args ds gs before hval0 hW _ _ _
  exact law_contract (P := Try.prog) A.cfg_ok (ts := [25]) (tb := 4) rfl rfl Try.underlying4 rfl (fun ds h => by match ds, h with | [d0], _ => rfl) laid
    (fun t ht => by simp only [List.mem_cons, List.not_mem_nil, or_false] at ht; rcases ht with rfl <;> exact ⟨by kernel_rfl, of_decide_eq_true (by kernel_rfl)⟩) rfl
    (fun t ht => by simp only [List.mem_cons, List.not_mem_nil, or_false] at ht; rcases ht with rfl <;> kernel_rfl) answers hval0 hW
theorem over : Rows.fnExactSoloBoundRow.holds Try.pinned (OpenSpec.ofChange Rows.fnExactSoloBoundSpec) :=
  OpenClaim.holds_of_wide 4 Try.f4 rfl rfl rfl rfl rfl rfl rfl ⟨rfl, rfl, rfl, rfl, rfl⟩ rfl rfl rfl rfl rfl (by kernel_rfl) Try.func4 (by kernel_rfl)
    (of_decide_eq_true (by kernel_rfl)) (by unfold Func.isWrapper; first | (rw [if_pos (by decide +kernel)]; kernel_rfl) | (rw [if_neg (by decide +kernel)]; exact ⟨rfl, rfl⟩))
    (fun os started H enc _ => lifted os started H enc)
theorem proved : Rows.FnExactSoloBoundSaid := over
#print axioms proved
end Go.Proofs.Ytlccafffncmhaaa.fnExactSoloBound
namespace Go.Proofs.Ytlccafffncmhaaa
/-- The row, under a short name, for the claim. -/
theorem fnExactSoloBound_holds : Rows.FnExactSoloBoundSaid := fnExactSoloBound.proved
end Go.Proofs.Ytlccafffncmhaaa
