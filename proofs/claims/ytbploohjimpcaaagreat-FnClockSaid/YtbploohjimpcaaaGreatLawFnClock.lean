/- FnClock holds for all bytes: the clock never exceeds its greatest value, and a snapshot is refused only when it has reached it: no condition. -/
import Derived.Test.YtbploohjimpcaaaGreatRows
import Derived.Test.YtbploohjimpcaaaGreatIc
import Derived.WalkKit
import Derived.ProofKit
import Derived.SizedLaws
namespace Go.Proofs.YtbploohjimpcaaaGreat.fnClock
open Go Go.Abs
open Go.ChangeShapes Go.WideShapes Go.ChangeAt Go.RowKit
theorem own : ownKnob Tryz.prog.godebug = none := by kernel_rfl
theorem laid : laidOutB Tryz.prog = true := by kernel_rfl

theorem answers (xs : List AV) (h : TyArgs A.cfg.ty [68] xs) : ∃ n out, callP A.cfg n 11 xs = some ⟨.bool true, out⟩ := by
  cases h with
  | cons hx h1 h2 =>
    cases h2
    cases hx
    obtain ⟨bs, hb, hl⟩ := A.tyBytes (n := 7) h1
    cases hb
    exact ⟨70, [], A.F_laws_FnClock (n := 0) hl⟩
set_option maxRecDepth 100000 in
theorem lifted (os : Os) (started : os.Started) (H : Type) (enc : TypeId × Value → H) :
    ReturnsInHanded {} Tryz.checked os 11 .any (Rows.fnClockSpec.pre6 enc Tryz.prog Tryz.f11 Rows.fnClockRow.domain false) (Rows.fnClockSpec.post enc Tryz.prog Tryz.f11 false true false false) := by
  refine returnsInHanded_of_change_sized (C := Tryz.checked) own started (by kernel_rfl) Tryz.func11
    (ChangeSpec.witness6 (enc := enc) (C := Tryz.checked) false ⟨#[], #[.slice none 0 0], []⟩ 8 (by kernel_rfl) (by kernel_rfl) (by kernel_rfl) (by kernel_rfl)) ?_
  intro W base args ds gs before hval0 hW _ _ _
  exact law_contract (P := Tryz.prog) A.cfg_ok (ts := [68]) (tb := 4) rfl rfl Tryz.underlying4 rfl (fun ds h => by match ds, h with | [d0], _ => rfl) laid
    (fun t ht => by simp only [List.mem_cons, List.not_mem_nil, or_false] at ht; rcases ht with rfl <;> exact ⟨by kernel_rfl, of_decide_eq_true (by kernel_rfl)⟩) rfl
    (fun t ht => by simp only [List.mem_cons, List.not_mem_nil, or_false] at ht; rcases ht with rfl <;> kernel_rfl) answers hval0 hW
theorem and2 {a b : Bool} (h : a = true) (g : b = true) : (a && b) = true := by rw [h, g]; rfl
theorem q1 : Rows.fnClockRow.wf (OpenSpec.ofChange Rows.fnClockSpec) = true := by kernel_rfl
theorem q2 : laidOutB Tryz.prog = true := by kernel_rfl
theorem q3 : mapsRowed Tryz.prog = true := by kernel_rfl
theorem q4 : Tryz.f11.params.all (Tryz.prog.readableRec ·) = true := by kernel_rfl
theorem q5 : namedTie Tryz.prog Rows.fnClockRow.named Rows.fnClockSpec.vars = true := by kernel_rfl
theorem q6 : (Rows.fnClockRow.stops == []) = true := by kernel_rfl
theorem q7 : (Tryz.prog.stops == []) = true := by kernel_rfl
theorem q8 : (Rows.fnClockRow.knobs == []) = true := by kernel_rfl
theorem q9 : (Tryz.prog.stopKnobs == []) = true := by kernel_rfl
theorem q10 : (Rows.fnClockRow.inPlace == Tryz.prog.inPlace 11) = true := by kernel_rfl
theorem q11 : (Rows.fnClockRow.unfollowed == Tryz.prog.unfollowed 11) = true := by kernel_rfl
theorem q12 : (Rows.fnClockRow.recurses == Tryz.prog.recurses 11) = true := by kernel_rfl
theorem q13 : (Rows.fnClockRow.named == Tryz.prog.varsNamed 11) = true := by kernel_rfl
theorem q14 : (Rows.fnClockRow.maps == (Tryz.f11.params.toList ++ Rows.fnClockSpec.plain.varTypes Tryz.prog).any (Tryz.prog.mapsRec ·)) = true := by kernel_rfl
theorem q15 : (Rows.fnClockRow.ifaces == (Tryz.f11.params.toList ++ Rows.fnClockSpec.plain.varTypes Tryz.prog).any (Tryz.prog.ifacesRec ·)) = true := by kernel_rfl
theorem q16 : (Rows.fnClockRow.mapsOut == Tryz.prog.mapsAmong Tryz.f11.resultTypes.toList) = true := by kernel_rfl
theorem q17 : (Rows.fnClockRow.loops == (Tryz.f11.params.toList ++ Rows.fnClockSpec.plain.varTypes Tryz.prog).any (Tryz.prog.loopsFrom ·)) = true := by kernel_rfl
theorem q18 : (Rows.fnClockRow.wideKeys == (Tryz.f11.params.toList ++ Rows.fnClockSpec.plain.varTypes Tryz.prog ++ Tryz.f11.resultTypes.toList).any (Tryz.prog.wideKeysFrom ·)) = true := by kernel_rfl
theorem q19 : Rows.fnClockSpec.vars.all (Tryz.prog.varReadable ·) = true := by kernel_rfl
theorem q20 : Tryz.f11.resultTypes.all (fun t => Tryz.prog.readableRec t && decide (t < Tryz.prog.types.size)) = true := by kernel_rfl
theorem q21 : (Rows.fnClockRow.ifacesOut == Tryz.f11.resultTypes.toList.any (Tryz.prog.ifacesRec ·)) = true := by kernel_rfl
theorem q22 : (Rows.fnClockRow.loopsOut == Tryz.f11.resultTypes.toList.any (Tryz.prog.loopsFrom ·)) = true := by kernel_rfl
theorem q23 : (Rows.fnClockRow.plainKeys == Tryz.prog.plainKeys) = true := by kernel_rfl
theorem q24 : Rows.fnClockRow.shortTexts.isNone = true := by kernel_rfl
theorem q25 : Tryz.prog.stopsHeard = true := by kernel_rfl
theorem q26 : Tryz.prog.mayEnter = true := by kernel_rfl
theorem q27 : (Rows.fnClockRow.lifted == Tryz.prog.liftsFinal) = true := by kernel_rfl
theorem q28 : (Tryz.prog.make == some Rows.fnClockRow.make) = true := by kernel_rfl
theorem q29 : (Rows.fnClockRow.kinds == (if Rows.fnClockRow.domain.isEmpty then [] else Tryz.f11.params.toList.map fun t => match Tryz.prog.underlying t with | some (.int k) => some k | _ => none)) = true := by kernel_rfl
theorem q30 : (Rows.fnClockRow.pinned == Rows.fnClockRow.pinnedBy) = true := by kernel_rfl
theorem q31 : (Rows.fnClockRow.veiled == (Tryz.f11.params.toList ++ Rows.fnClockSpec.plain.varTypes Tryz.prog ++ Tryz.f11.resultTypes.toList).any (Tryz.prog.veiledRec ·)) = true := by kernel_rfl
theorem q32 : Rows.fnClockRow.veiledFits Tryz.prog Tryz.f11.params.toList (Tryz.f11.params.toList ++ Rows.fnClockSpec.plain.varTypes Tryz.prog ++ Tryz.f11.resultTypes.toList) = true := by kernel_rfl
set_option maxRecDepth 100000 in
theorem closed : joinedFacts Tryz.prog 11 Tryz.f11 Rows.fnClockSpec Rows.fnClockRow = true := by
  unfold joinedFacts
  exact (and2 (and2 (and2 (and2 (and2 (and2 (and2 (and2 (and2 (and2 (and2 (and2 (and2 (and2 (and2 (and2 (and2 (and2 (and2 (and2 (and2 (and2 (and2 (and2 (and2 (and2 (and2 (and2 (and2 (and2 (and2 q1 q2) q3) q4) q5) q6) q7) q8) q9) q10) q11) q12) q13) q14) q15) q16) q17) q18) q19) q20) q21) q22) q23) q24) q25) q26) q27) q28) q29) q30) q31) q32)
theorem nm : Tryz.prog.funcNamed Rows.fnClockRow.func = some 11 := by kernel_rfl
theorem over : Rows.fnClockRow.holds Tryz.pinned (OpenSpec.ofChange Rows.fnClockSpec) :=
  OpenClaim.holds_of_wide 11 Tryz.f11 rfl rfl rfl rfl rfl rfl rfl ⟨rfl, rfl, rfl, rfl, rfl⟩ rfl rfl rfl rfl rfl nm Tryz.func11 closed
    (of_decide_eq_true (by kernel_rfl)) (by unfold Func.isWrapper; first | (rw [if_pos (by decide +kernel)]; kernel_rfl) | (rw [if_neg (by decide +kernel)]; exact ⟨rfl, rfl⟩))
    (fun os started H enc _ => lifted os started H enc)
theorem proved : Rows.FnClockSaid := over
#print axioms proved
end Go.Proofs.YtbploohjimpcaaaGreat.fnClock
namespace Go.Proofs.YtbploohjimpcaaaGreat
/-- The row, under a short name, for the claim. -/
theorem fnClock_holds : Rows.FnClockSaid := fnClock.proved
end Go.Proofs.YtbploohjimpcaaaGreat
