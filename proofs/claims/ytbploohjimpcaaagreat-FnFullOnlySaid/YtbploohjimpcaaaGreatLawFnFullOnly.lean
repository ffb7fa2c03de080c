/- FnFullOnly holds for all bytes: a write is refused for lack of room only when all nodes are born and its thread has none free: no condition. -/
import Derived.Test.YtbploohjimpcaaaGreatRows
import Derived.Test.YtbploohjimpcaaaGreatXw
import Derived.WalkKit
import Derived.ProofKit
import Derived.SizedLaws
namespace Go.Proofs.YtbploohjimpcaaaGreat.fnFullOnly
open Go Go.Abs
open Go.ChangeShapes Go.WideShapes Go.ChangeAt Go.RowKit
theorem own : ownKnob Tryz.prog.godebug = none := by kernel_rfl
theorem laid : laidOutB Tryz.prog = true := by kernel_rfl

theorem answers (xs : List AV) (h : TyArgs A.cfg.ty [68] xs) : ∃ n out, callP A.cfg n 12 xs = some ⟨.bool true, out⟩ := by
  cases h with
  | cons hx h1 h2 =>
    cases h2
    cases hx
    obtain ⟨bs, hb, hl⟩ := A.tyBytes (n := 7) h1
    cases hb
    exact ⟨70, [], A.F_laws_FnFullOnly (n := 0) hl⟩
set_option maxRecDepth 100000 in
theorem lifted (os : Os) (started : os.Started) (H : Type) (enc : TypeId × Value → H) :
    ReturnsInHanded {} Tryz.checked os 12 .any (Rows.fnFullOnlySpec.pre6 enc Tryz.prog Tryz.f12 Rows.fnFullOnlyRow.domain false) (Rows.fnFullOnlySpec.post enc Tryz.prog Tryz.f12 false true false false) := by
  refine returnsInHanded_of_change_sized (C := Tryz.checked) own started (by kernel_rfl) Tryz.func12
    (ChangeSpec.witness6 (enc := enc) (C := Tryz.checked) false ⟨#[], #[.slice none 0 0], []⟩ 8 (by kernel_rfl) (by kernel_rfl) (by kernel_rfl) (by kernel_rfl)) ?_
  intro W base args ds gs before hval0 hW _ _ _
  exact law_contract (P := Tryz.prog) A.cfg_ok (ts := [68]) (tb := 4) rfl rfl Tryz.underlying4 rfl (fun ds h => by match ds, h with | [d0], _ => rfl) laid
    (fun t ht => by simp only [List.mem_cons, List.not_mem_nil, or_false] at ht; rcases ht with rfl <;> exact ⟨by kernel_rfl, of_decide_eq_true (by kernel_rfl)⟩) rfl
    (fun t ht => by simp only [List.mem_cons, List.not_mem_nil, or_false] at ht; rcases ht with rfl <;> kernel_rfl) answers hval0 hW
theorem and2 {a b : Bool} (h : a = true) (g : b = true) : (a && b) = true := by rw [h, g]; rfl
theorem q1 : Rows.fnFullOnlyRow.wf (OpenSpec.ofChange Rows.fnFullOnlySpec) = true := by kernel_rfl
theorem q2 : laidOutB Tryz.prog = true := by kernel_rfl
theorem q3 : mapsRowed Tryz.prog = true := by kernel_rfl
theorem q4 : Tryz.f12.params.all (Tryz.prog.readableRec ·) = true := by kernel_rfl
theorem q5 : namedTie Tryz.prog Rows.fnFullOnlyRow.named Rows.fnFullOnlySpec.vars = true := by kernel_rfl
theorem q6 : (Rows.fnFullOnlyRow.stops == []) = true := by kernel_rfl
theorem q7 : (Tryz.prog.stops == []) = true := by kernel_rfl
theorem q8 : (Rows.fnFullOnlyRow.knobs == []) = true := by kernel_rfl
theorem q9 : (Tryz.prog.stopKnobs == []) = true := by kernel_rfl
theorem q10 : (Rows.fnFullOnlyRow.inPlace == Tryz.prog.inPlace 12) = true := by kernel_rfl
theorem q11 : (Rows.fnFullOnlyRow.unfollowed == Tryz.prog.unfollowed 12) = true := by kernel_rfl
theorem q12 : (Rows.fnFullOnlyRow.recurses == Tryz.prog.recurses 12) = true := by kernel_rfl
theorem q13 : (Rows.fnFullOnlyRow.named == Tryz.prog.varsNamed 12) = true := by kernel_rfl
theorem q14 : (Rows.fnFullOnlyRow.maps == (Tryz.f12.params.toList ++ Rows.fnFullOnlySpec.plain.varTypes Tryz.prog).any (Tryz.prog.mapsRec ·)) = true := by kernel_rfl
theorem q15 : (Rows.fnFullOnlyRow.ifaces == (Tryz.f12.params.toList ++ Rows.fnFullOnlySpec.plain.varTypes Tryz.prog).any (Tryz.prog.ifacesRec ·)) = true := by kernel_rfl
theorem q16 : (Rows.fnFullOnlyRow.mapsOut == Tryz.prog.mapsAmong Tryz.f12.resultTypes.toList) = true := by kernel_rfl
theorem q17 : (Rows.fnFullOnlyRow.loops == (Tryz.f12.params.toList ++ Rows.fnFullOnlySpec.plain.varTypes Tryz.prog).any (Tryz.prog.loopsFrom ·)) = true := by kernel_rfl
theorem q18 : (Rows.fnFullOnlyRow.wideKeys == (Tryz.f12.params.toList ++ Rows.fnFullOnlySpec.plain.varTypes Tryz.prog ++ Tryz.f12.resultTypes.toList).any (Tryz.prog.wideKeysFrom ·)) = true := by kernel_rfl
theorem q19 : Rows.fnFullOnlySpec.vars.all (Tryz.prog.varReadable ·) = true := by kernel_rfl
theorem q20 : Tryz.f12.resultTypes.all (fun t => Tryz.prog.readableRec t && decide (t < Tryz.prog.types.size)) = true := by kernel_rfl
theorem q21 : (Rows.fnFullOnlyRow.ifacesOut == Tryz.f12.resultTypes.toList.any (Tryz.prog.ifacesRec ·)) = true := by kernel_rfl
theorem q22 : (Rows.fnFullOnlyRow.loopsOut == Tryz.f12.resultTypes.toList.any (Tryz.prog.loopsFrom ·)) = true := by kernel_rfl
theorem q23 : (Rows.fnFullOnlyRow.plainKeys == Tryz.prog.plainKeys) = true := by kernel_rfl
theorem q24 : Rows.fnFullOnlyRow.shortTexts.isNone = true := by kernel_rfl
theorem q25 : Tryz.prog.stopsHeard = true := by kernel_rfl
theorem q26 : Tryz.prog.mayEnter = true := by kernel_rfl
theorem q27 : (Rows.fnFullOnlyRow.lifted == Tryz.prog.liftsFinal) = true := by kernel_rfl
theorem q28 : (Tryz.prog.make == some Rows.fnFullOnlyRow.make) = true := by kernel_rfl
theorem q29 : (Rows.fnFullOnlyRow.kinds == (if Rows.fnFullOnlyRow.domain.isEmpty then [] else Tryz.f12.params.toList.map fun t => match Tryz.prog.underlying t with | some (.int k) => some k | _ => none)) = true := by kernel_rfl
theorem q30 : (Rows.fnFullOnlyRow.pinned == Rows.fnFullOnlyRow.pinnedBy) = true := by kernel_rfl
theorem q31 : (Rows.fnFullOnlyRow.veiled == (Tryz.f12.params.toList ++ Rows.fnFullOnlySpec.plain.varTypes Tryz.prog ++ Tryz.f12.resultTypes.toList).any (Tryz.prog.veiledRec ·)) = true := by kernel_rfl
theorem q32 : Rows.fnFullOnlyRow.veiledFits Tryz.prog Tryz.f12.params.toList (Tryz.f12.params.toList ++ Rows.fnFullOnlySpec.plain.varTypes Tryz.prog ++ Tryz.f12.resultTypes.toList) = true := by kernel_rfl
set_option maxRecDepth 100000 in
theorem closed : joinedFacts Tryz.prog 12 Tryz.f12 Rows.fnFullOnlySpec Rows.fnFullOnlyRow = true := by
  unfold joinedFacts
  exact (and2 (and2 (and2 (and2 (and2 (and2 (and2 (and2 (and2 (and2 (and2 (and2 (and2 (and2 (and2 (and2 (and2 (and2 (and2 (and2 (and2 (and2 (and2 (and2 (and2 (and2 (and2 (and2 (and2 (and2 (and2 q1 q2) q3) q4) q5) q6) q7) q8) q9) q10) q11) q12) q13) q14) q15) q16) q17) q18) q19) q20) q21) q22) q23) q24) q25) q26) q27) q28) q29) q30) q31) q32)
theorem nm : Tryz.prog.funcNamed Rows.fnFullOnlyRow.func = some 12 := by kernel_rfl
theorem over : Rows.fnFullOnlyRow.holds Tryz.pinned (OpenSpec.ofChange Rows.fnFullOnlySpec) :=
  OpenClaim.holds_of_wide 12 Tryz.f12 rfl rfl rfl rfl rfl rfl rfl ⟨rfl, rfl, rfl, rfl, rfl⟩ rfl rfl rfl rfl rfl nm Tryz.func12 closed
    (of_decide_eq_true (by kernel_rfl)) (by unfold Func.isWrapper; first | (rw [if_pos (by decide +kernel)]; kernel_rfl) | (rw [if_neg (by decide +kernel)]; exact ⟨rfl, rfl⟩))
    (fun os started H enc _ => lifted os started H enc)
theorem proved : Rows.FnFullOnlySaid := over
#print axioms proved
end Go.Proofs.YtbploohjimpcaaaGreat.fnFullOnly
namespace Go.Proofs.YtbploohjimpcaaaGreat
/-- The row, under a short name, for the claim. -/
theorem fnFullOnly_holds : Rows.FnFullOnlySaid := fnFullOnly.proved
end Go.Proofs.YtbploohjimpcaaaGreat
