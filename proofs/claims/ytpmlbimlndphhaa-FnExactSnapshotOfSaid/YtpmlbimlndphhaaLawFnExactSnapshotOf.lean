/- SnapshotOf of the program answers what the reference answers, for every state and every thread number: no condition. -/
import Derived.Test.YtpmlbimlndphhaaRows
import Derived.Test.YtpmlbimlndphhaaGnS
import Derived.WalkKit
import Derived.ProofKit
import Derived.SizedLaws
namespace Go.Proofs.Ytpmlbimlndphhaa.fnExactSnapshotOf
open Go Go.Abs
open Go.ChangeShapes Go.WideShapes Go.ChangeAt Go.RowKit
theorem own : ownKnob Try.prog.godebug = none := by kernel_rfl
theorem laid : laidOutB Try.prog = true := by kernel_rfl

theorem answers (xs : List AV) (h : TyArgs A.cfg.ty [27, 3] xs) : ∃ n out, callP A.cfg n 9 xs = some ⟨.bool true, out⟩ := by
  cases h with
  | cons hx h1 h2 =>
    cases h2 with
    | cons hy h3 h4 =>
      cases h4
      cases hx
      cases hy
      obtain ⟨s, rfl, hs, hi⟩ := A.tySta (n := 3) h1
      obtain ⟨p, hp, hpi⟩ := A.tyInt (n := 8) h3
      cases hp
      exact ⟨16, [], A.F_laws_FnExactSnapshotOf (n := 0) hs hi⟩
set_option maxRecDepth 100000 in
theorem lifted (os : Os) (started : os.Started) (H : Type) (enc : TypeId × Value → H) :
    ReturnsInHanded {} Try.checked os 9 .any (Rows.fnExactSnapshotOfSpec.pre6 enc Try.prog Try.f9 Rows.fnExactSnapshotOfRow.domain false) (Rows.fnExactSnapshotOfSpec.post enc Try.prog Try.f9 false true false false) := by
  refine returnsInHanded_of_change_sized (C := Try.checked) own started (by kernel_rfl) Try.func9
    (ChangeSpec.witness6 (enc := enc) (C := Try.checked) false ⟨#[], #[.agg #[.int .i64 0, .int .i64 0, .int .i64 0, .int .i64 0, .int .i64 0, .int .i64 0, .slice none 0 0, .slice none 0 0, .slice none 0 0, .int .i64 0, .int .i64 0, .int .i64 0, .int .i64 0], .int .i64 0], []⟩ 8 (by kernel_rfl) (by kernel_rfl) (by kernel_rfl) (by kernel_rfl)) ?_
  intro W base args ds gs before hval0 hW _ _ _
  exact law_contract (P := Try.prog) A.cfg_ok (ts := [27, 3]) (tb := 4) rfl rfl Try.underlying4 rfl (fun ds h => by match ds, h with | [d0, d1], _ => rfl) laid
    (fun t ht => by simp only [List.mem_cons, List.not_mem_nil, or_false] at ht; rcases ht with rfl | rfl <;> exact ⟨by kernel_rfl, of_decide_eq_true (by kernel_rfl)⟩) rfl
    (fun t ht => by simp only [List.mem_cons, List.not_mem_nil, or_false] at ht; rcases ht with rfl | rfl <;> kernel_rfl) answers hval0 hW
theorem over : Rows.fnExactSnapshotOfRow.holds Try.pinned (OpenSpec.ofChange Rows.fnExactSnapshotOfSpec) :=
  OpenClaim.holds_of_wide 9 Try.f9 rfl rfl rfl rfl rfl rfl rfl ⟨rfl, rfl, rfl, rfl, rfl⟩ rfl rfl rfl rfl rfl (by kernel_rfl) Try.func9 (by kernel_rfl)
    (of_decide_eq_true (by kernel_rfl)) (by unfold Func.isWrapper; first | (rw [if_pos (by decide +kernel)]; kernel_rfl) | (rw [if_neg (by decide +kernel)]; exact ⟨rfl, rfl⟩))
    (fun os started H enc _ => lifted os started H enc)
theorem proved : Rows.FnExactSnapshotOfSaid := over
#print axioms proved
end Go.Proofs.Ytpmlbimlndphhaa.fnExactSnapshotOf
namespace Go.Proofs.Ytpmlbimlndphhaa
/-- The row, under a short name, for the claim. -/
theorem fnExactSnapshotOf_holds : Rows.FnExactSnapshotOfSaid := fnExactSnapshotOf.proved
end Go.Proofs.Ytpmlbimlndphhaa
