/- FinishScript of the program answers what the reference answers, for every script: no condition. -/
import Derived.Test.YtbploohjimpcaaaGreatRows
import Derived.Test.YtbploohjimpcaaaGreatGu
import Derived.Test.YtbploohjimpcaaaGreatHf
import Derived.WalkKit
import Derived.ProofKit
import Derived.SizedLaws
namespace Go.Proofs.YtbploohjimpcaaaGreat.fnExactFinishScript
open Go Go.Abs
open Go.ChangeShapes Go.WideShapes Go.ChangeAt Go.RowKit
theorem own : ownKnob Tryz.prog.godebug = none := by kernel_rfl
theorem laid : laidOutB Tryz.prog = true := by kernel_rfl

theorem answers (xs : List AV) (h : TyArgs A.cfg.ty [27] xs) : ∃ n out, callP A.cfg n 4 xs = some ⟨.bool true, out⟩ := by
  cases h with
  | cons hx h1 h2 =>
    cases h2
    cases hx
    obtain ⟨x, rfl, hx⟩ := A.tyScr (n := 4) h1
    exact ⟨71, [], A.F_laws_FnExactFinishScript (n := 0) hx⟩
set_option maxRecDepth 100000 in
theorem lifted (os : Os) (started : os.Started) (H : Type) (enc : TypeId × Value → H) :
    ReturnsInHanded {} Tryz.checked os 4 .any (Rows.fnExactFinishScriptSpec.pre6 enc Tryz.prog Tryz.f4 Rows.fnExactFinishScriptRow.domain false) (Rows.fnExactFinishScriptSpec.post enc Tryz.prog Tryz.f4 false true false false) := by
  refine returnsInHanded_of_change_sized (C := Tryz.checked) own started (by kernel_rfl) Tryz.func4
    (ChangeSpec.witness6 (enc := enc) (C := Tryz.checked) false ⟨#[], #[.agg #[.int .i64 0, .int .i64 0, .int .i64 0, .int .i64 0, .int .i64 0, .int .i64 0, .slice none 0 0, .slice none 0 0]], []⟩ 8 (by kernel_rfl) (by kernel_rfl) (by kernel_rfl) (by kernel_rfl)) ?_
  intro W base args ds gs before hval0 hW _ _ _
  exact law_contract (P := Tryz.prog) A.cfg_ok (ts := [27]) (tb := 4) rfl rfl Tryz.underlying4 rfl (fun ds h => by match ds, h with | [d0], _ => rfl) laid
    (fun t ht => by simp only [List.mem_cons, List.not_mem_nil, or_false] at ht; rcases ht with rfl <;> exact ⟨by kernel_rfl, of_decide_eq_true (by kernel_rfl)⟩) rfl
    (fun t ht => by simp only [List.mem_cons, List.not_mem_nil, or_false] at ht; rcases ht with rfl <;> kernel_rfl) answers hval0 hW
theorem and2 {a b : Bool} (h : a = true) (g : b = true) : (a && b) = true := by rw [h, g]; rfl
theorem q1 : Rows.fnExactFinishScriptRow.wf (OpenSpec.ofChange Rows.fnExactFinishScriptSpec) = true := by kernel_rfl
theorem q2 : laidOutB Tryz.prog = true := by kernel_rfl
theorem q3 : mapsRowed Tryz.prog = true := by kernel_rfl
theorem q4 : Tryz.f4.params.all (Tryz.prog.readableRec ·) = true := by kernel_rfl
theorem q5 : namedTie Tryz.prog Rows.fnExactFinishScriptRow.named Rows.fnExactFinishScriptSpec.vars = true := by kernel_rfl
theorem q6 : (Rows.fnExactFinishScriptRow.stops == []) = true := by kernel_rfl
theorem q7 : (Tryz.prog.stops == []) = true := by kernel_rfl
theorem q8 : (Rows.fnExactFinishScriptRow.knobs == []) = true := by kernel_rfl
theorem q9 : (Tryz.prog.stopKnobs == []) = true := by kernel_rfl
theorem q10 : (Rows.fnExactFinishScriptRow.inPlace == Tryz.prog.inPlace 4) = true := by kernel_rfl
theorem q11 : (Rows.fnExactFinishScriptRow.unfollowed == Tryz.prog.unfollowed 4) = true := by kernel_rfl
theorem q12 : (Rows.fnExactFinishScriptRow.recurses == Tryz.prog.recurses 4) = true := by kernel_rfl
theorem q13 : (Rows.fnExactFinishScriptRow.named == Tryz.prog.varsNamed 4) = true := by kernel_rfl
theorem q14 : (Rows.fnExactFinishScriptRow.maps == (Tryz.f4.params.toList ++ Rows.fnExactFinishScriptSpec.plain.varTypes Tryz.prog).any (Tryz.prog.mapsRec ·)) = true := by kernel_rfl
theorem q15 : (Rows.fnExactFinishScriptRow.ifaces == (Tryz.f4.params.toList ++ Rows.fnExactFinishScriptSpec.plain.varTypes Tryz.prog).any (Tryz.prog.ifacesRec ·)) = true := by kernel_rfl
theorem q16 : (Rows.fnExactFinishScriptRow.mapsOut == Tryz.prog.mapsAmong Tryz.f4.resultTypes.toList) = true := by kernel_rfl
theorem q17 : (Rows.fnExactFinishScriptRow.loops == (Tryz.f4.params.toList ++ Rows.fnExactFinishScriptSpec.plain.varTypes Tryz.prog).any (Tryz.prog.loopsFrom ·)) = true := by kernel_rfl
theorem q18 : (Rows.fnExactFinishScriptRow.wideKeys == (Tryz.f4.params.toList ++ Rows.fnExactFinishScriptSpec.plain.varTypes Tryz.prog ++ Tryz.f4.resultTypes.toList).any (Tryz.prog.wideKeysFrom ·)) = true := by kernel_rfl
theorem q19 : Rows.fnExactFinishScriptSpec.vars.all (Tryz.prog.varReadable ·) = true := by kernel_rfl
theorem q20 : Tryz.f4.resultTypes.all (fun t => Tryz.prog.readableRec t && decide (t < Tryz.prog.types.size)) = true := by kernel_rfl
theorem q21 : (Rows.fnExactFinishScriptRow.ifacesOut == Tryz.f4.resultTypes.toList.any (Tryz.prog.ifacesRec ·)) = true := by kernel_rfl
theorem q22 : (Rows.fnExactFinishScriptRow.loopsOut == Tryz.f4.resultTypes.toList.any (Tryz.prog.loopsFrom ·)) = true := by kernel_rfl
theorem q23 : (Rows.fnExactFinishScriptRow.plainKeys == Tryz.prog.plainKeys) = true := by kernel_rfl
theorem q24 : Rows.fnExactFinishScriptRow.shortTexts.isNone = true := by kernel_rfl
theorem q25 : Tryz.prog.stopsHeard = true := by kernel_rfl
theorem q26 : Tryz.prog.mayEnter = true := by kernel_rfl
theorem q27 : (Rows.fnExactFinishScriptRow.lifted == Tryz.prog.liftsFinal) = true := by kernel_rfl
theorem q28 : (Tryz.prog.make == some Rows.fnExactFinishScriptRow.make) = true := by kernel_rfl
theorem q29 : (Rows.fnExactFinishScriptRow.kinds == (if Rows.fnExactFinishScriptRow.domain.isEmpty then [] else Tryz.f4.params.toList.map fun t => match Tryz.prog.underlying t with | some (.int k) => some k | _ => none)) = true := by kernel_rfl
theorem q30 : (Rows.fnExactFinishScriptRow.pinned == Rows.fnExactFinishScriptRow.pinnedBy) = true := by kernel_rfl
theorem q31 : (Rows.fnExactFinishScriptRow.veiled == (Tryz.f4.params.toList ++ Rows.fnExactFinishScriptSpec.plain.varTypes Tryz.prog ++ Tryz.f4.resultTypes.toList).any (Tryz.prog.veiledRec ·)) = true := by kernel_rfl
theorem q32 : Rows.fnExactFinishScriptRow.veiledFits Tryz.prog Tryz.f4.params.toList (Tryz.f4.params.toList ++ Rows.fnExactFinishScriptSpec.plain.varTypes Tryz.prog ++ Tryz.f4.resultTypes.toList) = true := by kernel_rfl
set_option maxRecDepth 100000 in
theorem closed : joinedFacts Tryz.prog 4 Tryz.f4 Rows.fnExactFinishScriptSpec Rows.fnExactFinishScriptRow = true := by
  unfold joinedFacts
  exact (and2 (and2 (and2 (and2 (and2 (and2 (and2 (and2 (and2 (and2 (and2 (and2 (and2 (and2 (and2 (and2 (and2 (and2 (and2 (and2 (and2 (and2 (and2 (and2 (and2 (and2 (and2 (and2 (and2 (and2 (and2 q1 q2) q3) q4) q5) q6) q7) q8) q9) q10) q11) q12) q13) q14) q15) q16) q17) q18) q19) q20) q21) q22) q23) q24) q25) q26) q27) q28) q29) q30) q31) q32)
theorem nm : Tryz.prog.funcNamed Rows.fnExactFinishScriptRow.func = some 4 := by kernel_rfl
theorem over : Rows.fnExactFinishScriptRow.holds Tryz.pinned (OpenSpec.ofChange Rows.fnExactFinishScriptSpec) :=
  OpenClaim.holds_of_wide 4 Tryz.f4 rfl rfl rfl rfl rfl rfl rfl ⟨rfl, rfl, rfl, rfl, rfl⟩ rfl rfl rfl rfl rfl nm Tryz.func4 closed
    (of_decide_eq_true (by kernel_rfl)) (by unfold Func.isWrapper; first | (rw [if_pos (by decide +kernel)]; kernel_rfl) | (rw [if_neg (by decide +kernel)]; exact ⟨rfl, rfl⟩))
    (fun os started H enc _ => lifted os started H enc)
theorem proved : Rows.FnExactFinishScriptSaid := over
#print axioms proved
end Go.Proofs.YtbploohjimpcaaaGreat.fnExactFinishScript
namespace Go.Proofs.YtbploohjimpcaaaGreat
/-- The row, under a short name, for the claim. -/
theorem fnExactFinishScript_holds : Rows.FnExactFinishScriptSaid := fnExactFinishScript.proved
end Go.Proofs.YtbploohjimpcaaaGreat
