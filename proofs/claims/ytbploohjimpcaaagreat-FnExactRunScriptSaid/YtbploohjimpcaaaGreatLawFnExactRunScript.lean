/- RunScript of the program answers what the reference answers, for every script: no condition. -/
import Derived.Test.YtbploohjimpcaaaGreatRows
import Derived.Test.YtbploohjimpcaaaGreatGu
import Derived.Test.YtbploohjimpcaaaGreatHe
import Derived.WalkKit
import Derived.ProofKit
import Derived.SizedLaws
namespace Go.Proofs.YtbploohjimpcaaaGreat.fnExactRunScript
open Go Go.Abs
open Go.ChangeShapes Go.WideShapes Go.ChangeAt Go.RowKit
theorem own : ownKnob Tryz.prog.godebug = none := by kernel_rfl
theorem laid : laidOutB Tryz.prog = true := by kernel_rfl

theorem answers (xs : List AV) (h : TyArgs A.cfg.ty [27] xs) : ∃ n out, callP A.cfg n 3 xs = some ⟨.bool true, out⟩ := by
  cases h with
  | cons hx h1 h2 =>
    cases h2
    cases hx
    obtain ⟨x, rfl, hx⟩ := A.tyScr (n := 4) h1
    exact ⟨70, [], A.F_laws_FnExactRunScript (n := 0) hx⟩
set_option maxRecDepth 100000 in
theorem lifted (os : Os) (started : os.Started) (H : Type) (enc : TypeId × Value → H) :
    ReturnsInHanded {} Tryz.checked os 3 .any (Rows.fnExactRunScriptSpec.pre6 enc Tryz.prog Tryz.f3 Rows.fnExactRunScriptRow.domain false) (Rows.fnExactRunScriptSpec.post enc Tryz.prog Tryz.f3 false true false false) := by
  refine returnsInHanded_of_change_sized (C := Tryz.checked) own started (by kernel_rfl) Tryz.func3
    (ChangeSpec.witness6 (enc := enc) (C := Tryz.checked) false ⟨#[], #[.agg #[.int .i64 0, .int .i64 0, .int .i64 0, .int .i64 0, .int .i64 0, .int .i64 0, .slice none 0 0, .slice none 0 0]], []⟩ 8 (by kernel_rfl) (by kernel_rfl) (by kernel_rfl) (by kernel_rfl)) ?_
  intro W base args ds gs before hval0 hW _ _ _
  exact law_contract (P := Tryz.prog) A.cfg_ok (ts := [27]) (tb := 4) rfl rfl Tryz.underlying4 rfl (fun ds h => by match ds, h with | [d0], _ => rfl) laid
    (fun t ht => by simp only [List.mem_cons, List.not_mem_nil, or_false] at ht; rcases ht with rfl <;> exact ⟨by kernel_rfl, of_decide_eq_true (by kernel_rfl)⟩) rfl
    (fun t ht => by simp only [List.mem_cons, List.not_mem_nil, or_false] at ht; rcases ht with rfl <;> kernel_rfl) answers hval0 hW
theorem and2 {a b : Bool} (h : a = true) (g : b = true) : (a && b) = true := by rw [h, g]; rfl
theorem q1 : Rows.fnExactRunScriptRow.wf (OpenSpec.ofChange Rows.fnExactRunScriptSpec) = true := by kernel_rfl
theorem q2 : laidOutB Tryz.prog = true := by kernel_rfl
theorem q3 : mapsRowed Tryz.prog = true := by kernel_rfl
theorem q4 : Tryz.f3.params.all (Tryz.prog.readableRec ·) = true := by kernel_rfl
theorem q5 : namedTie Tryz.prog Rows.fnExactRunScriptRow.named Rows.fnExactRunScriptSpec.vars = true := by kernel_rfl
theorem q6 : (Rows.fnExactRunScriptRow.stops == []) = true := by kernel_rfl
theorem q7 : (Tryz.prog.stops == []) = true := by kernel_rfl
theorem q8 : (Rows.fnExactRunScriptRow.knobs == []) = true := by kernel_rfl
theorem q9 : (Tryz.prog.stopKnobs == []) = true := by kernel_rfl
theorem q10 : (Rows.fnExactRunScriptRow.inPlace == Tryz.prog.inPlace 3) = true := by kernel_rfl
theorem q11 : (Rows.fnExactRunScriptRow.unfollowed == Tryz.prog.unfollowed 3) = true := by kernel_rfl
theorem q12 : (Rows.fnExactRunScriptRow.recurses == Tryz.prog.recurses 3) = true := by kernel_rfl
theorem q13 : (Rows.fnExactRunScriptRow.named == Tryz.prog.varsNamed 3) = true := by kernel_rfl
theorem q14 : (Rows.fnExactRunScriptRow.maps == (Tryz.f3.params.toList ++ Rows.fnExactRunScriptSpec.plain.varTypes Tryz.prog).any (Tryz.prog.mapsRec ·)) = true := by kernel_rfl
theorem q15 : (Rows.fnExactRunScriptRow.ifaces == (Tryz.f3.params.toList ++ Rows.fnExactRunScriptSpec.plain.varTypes Tryz.prog).any (Tryz.prog.ifacesRec ·)) = true := by kernel_rfl
theorem q16 : (Rows.fnExactRunScriptRow.mapsOut == Tryz.prog.mapsAmong Tryz.f3.resultTypes.toList) = true := by kernel_rfl
theorem q17 : (Rows.fnExactRunScriptRow.loops == (Tryz.f3.params.toList ++ Rows.fnExactRunScriptSpec.plain.varTypes Tryz.prog).any (Tryz.prog.loopsFrom ·)) = true := by kernel_rfl
theorem q18 : (Rows.fnExactRunScriptRow.wideKeys == (Tryz.f3.params.toList ++ Rows.fnExactRunScriptSpec.plain.varTypes Tryz.prog ++ Tryz.f3.resultTypes.toList).any (Tryz.prog.wideKeysFrom ·)) = true := by kernel_rfl
theorem q19 : Rows.fnExactRunScriptSpec.vars.all (Tryz.prog.varReadable ·) = true := by kernel_rfl
theorem q20 : Tryz.f3.resultTypes.all (fun t => Tryz.prog.readableRec t && decide (t < Tryz.prog.types.size)) = true := by kernel_rfl
theorem q21 : (Rows.fnExactRunScriptRow.ifacesOut == Tryz.f3.resultTypes.toList.any (Tryz.prog.ifacesRec ·)) = true := by kernel_rfl
theorem q22 : (Rows.fnExactRunScriptRow.loopsOut == Tryz.f3.resultTypes.toList.any (Tryz.prog.loopsFrom ·)) = true := by kernel_rfl
theorem q23 : (Rows.fnExactRunScriptRow.plainKeys == Tryz.prog.plainKeys) = true := by kernel_rfl
theorem q24 : Rows.fnExactRunScriptRow.shortTexts.isNone = true := by kernel_rfl
theorem q25 : Tryz.prog.stopsHeard = true := by kernel_rfl
theorem q26 : Tryz.prog.mayEnter = true := by kernel_rfl
theorem q27 : (Rows.fnExactRunScriptRow.lifted == Tryz.prog.liftsFinal) = true := by kernel_rfl
theorem q28 : (Tryz.prog.make == some Rows.fnExactRunScriptRow.make) = true := by kernel_rfl
theorem q29 : (Rows.fnExactRunScriptRow.kinds == (if Rows.fnExactRunScriptRow.domain.isEmpty then [] else Tryz.f3.params.toList.map fun t => match Tryz.prog.underlying t with | some (.int k) => some k | _ => none)) = true := by kernel_rfl
theorem q30 : (Rows.fnExactRunScriptRow.pinned == Rows.fnExactRunScriptRow.pinnedBy) = true := by kernel_rfl
theorem q31 : (Rows.fnExactRunScriptRow.veiled == (Tryz.f3.params.toList ++ Rows.fnExactRunScriptSpec.plain.varTypes Tryz.prog ++ Tryz.f3.resultTypes.toList).any (Tryz.prog.veiledRec ·)) = true := by kernel_rfl
theorem q32 : Rows.fnExactRunScriptRow.veiledFits Tryz.prog Tryz.f3.params.toList (Tryz.f3.params.toList ++ Rows.fnExactRunScriptSpec.plain.varTypes Tryz.prog ++ Tryz.f3.resultTypes.toList) = true := by kernel_rfl
set_option maxRecDepth 100000 in
theorem closed : joinedFacts Tryz.prog 3 Tryz.f3 Rows.fnExactRunScriptSpec Rows.fnExactRunScriptRow = true := by
  unfold joinedFacts
  exact (and2 (and2 (and2 (and2 (and2 (and2 (and2 (and2 (and2 (and2 (and2 (and2 (and2 (and2 (and2 (and2 (and2 (and2 (and2 (and2 (and2 (and2 (and2 (and2 (and2 (and2 (and2 (and2 (and2 (and2 (and2 q1 q2) q3) q4) q5) q6) q7) q8) q9) q10) q11) q12) q13) q14) q15) q16) q17) q18) q19) q20) q21) q22) q23) q24) q25) q26) q27) q28) q29) q30) q31) q32)
theorem nm : Tryz.prog.funcNamed Rows.fnExactRunScriptRow.func = some 3 := by kernel_rfl
theorem over : Rows.fnExactRunScriptRow.holds Tryz.pinned (OpenSpec.ofChange Rows.fnExactRunScriptSpec) :=
  OpenClaim.holds_of_wide 3 Tryz.f3 rfl rfl rfl rfl rfl rfl rfl ⟨rfl, rfl, rfl, rfl, rfl⟩ rfl rfl rfl rfl rfl nm Tryz.func3 closed
    (of_decide_eq_true (by kernel_rfl)) (by unfold Func.isWrapper; first | (rw [if_pos (by decide +kernel)]; kernel_rfl) | (rw [if_neg (by decide +kernel)]; exact ⟨rfl, rfl⟩))
    (fun os started H enc _ => lifted os started H enc)
theorem proved : Rows.FnExactRunScriptSaid := over
#print axioms proved
end Go.Proofs.YtbploohjimpcaaaGreat.fnExactRunScript
namespace Go.Proofs.YtbploohjimpcaaaGreat
/-- The row, under a short name, for the claim. -/
theorem fnExactRunScript_holds : Rows.FnExactRunScriptSaid := fnExactRunScript.proved
end Go.Proofs.YtbploohjimpcaaaGreat
