/- FnRetries holds for all bytes: a step that must be repeated was caused by a change of another thread; there are at most as many repetitions as changes times threads: no condition. -/
import Derived.Test.YtbploohjimpcaaaGreatRows
import Derived.Test.YtbploohjimpcaaaGreatXs
import Derived.WalkKit
import Derived.ProofKit
import Derived.SizedLaws
namespace Go.Proofs.YtbploohjimpcaaaGreat.fnRetries
open Go Go.Abs
open Go.ChangeShapes Go.WideShapes Go.ChangeAt Go.RowKit
theorem own : ownKnob Tryz.prog.godebug = none := by kernel_rfl
theorem laid : laidOutB Tryz.prog = true := by kernel_rfl

theorem answers (xs : List AV) (h : TyArgs A.cfg.ty [68] xs) : ∃ n out, callP A.cfg n 10 xs = some ⟨.bool true, out⟩ := by
  cases h with
  | cons hx h1 h2 =>
    cases h2
    cases hx
    obtain ⟨bs, hb, hl⟩ := A.tyBytes (n := 7) h1
    cases hb
    exact ⟨63, [], A.F_laws_FnRetries (n := 0) hl⟩
set_option maxRecDepth 100000 in
theorem lifted (os : Os) (started : os.Started) (H : Type) (enc : TypeId × Value → H) :
    ReturnsInHanded {} Tryz.checked os 10 .any (Rows.fnRetriesSpec.pre6 enc Tryz.prog Tryz.f10 Rows.fnRetriesRow.domain false) (Rows.fnRetriesSpec.post enc Tryz.prog Tryz.f10 false true false false) := by
  refine returnsInHanded_of_change_sized (C := Tryz.checked) own started (by kernel_rfl) Tryz.func10
    (ChangeSpec.witness6 (enc := enc) (C := Tryz.checked) false ⟨#[], #[.slice none 0 0], []⟩ 8 (by kernel_rfl) (by kernel_rfl) (by kernel_rfl) (by kernel_rfl)) ?_
  intro W base args ds gs before hval0 hW _ _ _
  exact law_contract (P := Tryz.prog) A.cfg_ok (ts := [68]) (tb := 4) rfl rfl Tryz.underlying4 rfl (fun ds h => by match ds, h with | [d0], _ => rfl) laid
    (fun t ht => by simp only [List.mem_cons, List.not_mem_nil, or_false] at ht; rcases ht with rfl <;> exact ⟨by kernel_rfl, of_decide_eq_true (by kernel_rfl)⟩) rfl
    (fun t ht => by simp only [List.mem_cons, List.not_mem_nil, or_false] at ht; rcases ht with rfl <;> kernel_rfl) answers hval0 hW
theorem and2 {a b : Bool} (h : a = true) (g : b = true) : (a && b) = true := by rw [h, g]; rfl
theorem q1 : Rows.fnRetriesRow.wf (OpenSpec.ofChange Rows.fnRetriesSpec) = true := by kernel_rfl
theorem q2 : laidOutB Tryz.prog = true := by kernel_rfl
theorem q3 : mapsRowed Tryz.prog = true := by kernel_rfl
theorem q4 : Tryz.f10.params.all (Tryz.prog.readableRec ·) = true := by kernel_rfl
theorem q5 : namedTie Tryz.prog Rows.fnRetriesRow.named Rows.fnRetriesSpec.vars = true := by kernel_rfl
theorem q6 : (Rows.fnRetriesRow.stops == []) = true := by kernel_rfl
theorem q7 : (Tryz.prog.stops == []) = true := by kernel_rfl
theorem q8 : (Rows.fnRetriesRow.knobs == []) = true := by kernel_rfl
theorem q9 : (Tryz.prog.stopKnobs == []) = true := by kernel_rfl
theorem q10 : (Rows.fnRetriesRow.inPlace == Tryz.prog.inPlace 10) = true := by kernel_rfl
theorem q11 : (Rows.fnRetriesRow.unfollowed == Tryz.prog.unfollowed 10) = true := by kernel_rfl
theorem q12 : (Rows.fnRetriesRow.recurses == Tryz.prog.recurses 10) = true := by kernel_rfl
theorem q13 : (Rows.fnRetriesRow.named == Tryz.prog.varsNamed 10) = true := by kernel_rfl
theorem q14 : (Rows.fnRetriesRow.maps == (Tryz.f10.params.toList ++ Rows.fnRetriesSpec.plain.varTypes Tryz.prog).any (Tryz.prog.mapsRec ·)) = true := by kernel_rfl
theorem q15 : (Rows.fnRetriesRow.ifaces == (Tryz.f10.params.toList ++ Rows.fnRetriesSpec.plain.varTypes Tryz.prog).any (Tryz.prog.ifacesRec ·)) = true := by kernel_rfl
theorem q16 : (Rows.fnRetriesRow.mapsOut == Tryz.prog.mapsAmong Tryz.f10.resultTypes.toList) = true := by kernel_rfl
theorem q17 : (Rows.fnRetriesRow.loops == (Tryz.f10.params.toList ++ Rows.fnRetriesSpec.plain.varTypes Tryz.prog).any (Tryz.prog.loopsFrom ·)) = true := by kernel_rfl
theorem q18 : (Rows.fnRetriesRow.wideKeys == (Tryz.f10.params.toList ++ Rows.fnRetriesSpec.plain.varTypes Tryz.prog ++ Tryz.f10.resultTypes.toList).any (Tryz.prog.wideKeysFrom ·)) = true := by kernel_rfl
theorem q19 : Rows.fnRetriesSpec.vars.all (Tryz.prog.varReadable ·) = true := by kernel_rfl
theorem q20 : Tryz.f10.resultTypes.all (fun t => Tryz.prog.readableRec t && decide (t < Tryz.prog.types.size)) = true := by kernel_rfl
theorem q21 : (Rows.fnRetriesRow.ifacesOut == Tryz.f10.resultTypes.toList.any (Tryz.prog.ifacesRec ·)) = true := by kernel_rfl
theorem q22 : (Rows.fnRetriesRow.loopsOut == Tryz.f10.resultTypes.toList.any (Tryz.prog.loopsFrom ·)) = true := by kernel_rfl
theorem q23 : (Rows.fnRetriesRow.plainKeys == Tryz.prog.plainKeys) = true := by kernel_rfl
theorem q24 : Rows.fnRetriesRow.shortTexts.isNone = true := by kernel_rfl
theorem q25 : Tryz.prog.stopsHeard = true := by kernel_rfl
theorem q26 : Tryz.prog.mayEnter = true := by kernel_rfl
theorem q27 : (Rows.fnRetriesRow.lifted == Tryz.prog.liftsFinal) = true := by kernel_rfl
theorem q28 : (Tryz.prog.make == some Rows.fnRetriesRow.make) = true := by kernel_rfl
theorem q29 : (Rows.fnRetriesRow.kinds == (if Rows.fnRetriesRow.domain.isEmpty then [] else Tryz.f10.params.toList.map fun t => match Tryz.prog.underlying t with | some (.int k) => some k | _ => none)) = true := by kernel_rfl
theorem q30 : (Rows.fnRetriesRow.pinned == Rows.fnRetriesRow.pinnedBy) = true := by kernel_rfl
theorem q31 : (Rows.fnRetriesRow.veiled == (Tryz.f10.params.toList ++ Rows.fnRetriesSpec.plain.varTypes Tryz.prog ++ Tryz.f10.resultTypes.toList).any (Tryz.prog.veiledRec ·)) = true := by kernel_rfl
theorem q32 : Rows.fnRetriesRow.veiledFits Tryz.prog Tryz.f10.params.toList (Tryz.f10.params.toList ++ Rows.fnRetriesSpec.plain.varTypes Tryz.prog ++ Tryz.f10.resultTypes.toList) = true := by kernel_rfl
set_option maxRecDepth 100000 in
theorem closed : joinedFacts Tryz.prog 10 Tryz.f10 Rows.fnRetriesSpec Rows.fnRetriesRow = true := by
  unfold joinedFacts
  exact (and2 (and2 (and2 (and2 (and2 (and2 (and2 (and2 (and2 (and2 (and2 (and2 (and2 (and2 (and2 (and2 (and2 (and2 (and2 (and2 (and2 (and2 (and2 (and2 (and2 (and2 (and2 (and2 (and2 (and2 (and2 q1 q2) q3) q4) q5) q6) q7) q8) q9) q10) q11) q12) q13) q14) q15) q16) q17) q18) q19) q20) q21) q22) q23) q24) q25) q26) q27) q28) q29) q30) q31) q32)
theorem nm : Tryz.prog.funcNamed Rows.fnRetriesRow.func = some 10 := by kernel_rfl
theorem over : Rows.fnRetriesRow.holds Tryz.pinned (OpenSpec.ofChange Rows.fnRetriesSpec) :=
  OpenClaim.holds_of_wide 10 Tryz.f10 rfl rfl rfl rfl rfl rfl rfl ⟨rfl, rfl, rfl, rfl, rfl⟩ rfl rfl rfl rfl rfl nm Tryz.func10 closed
    (of_decide_eq_true (by kernel_rfl)) (by unfold Func.isWrapper; first | (rw [if_pos (by decide +kernel)]; kernel_rfl) | (rw [if_neg (by decide +kernel)]; exact ⟨rfl, rfl⟩))
    (fun os started H enc _ => lifted os started H enc)
theorem proved : Rows.FnRetriesSaid := over
#print axioms proved
end Go.Proofs.YtbploohjimpcaaaGreat.fnRetries
namespace Go.Proofs.YtbploohjimpcaaaGreat
/-- The row, under a short name, for the claim. -/
theorem fnRetries_holds : Rows.FnRetriesSaid := fnRetries.proved
end Go.Proofs.YtbploohjimpcaaaGreat
