/- What the functions of the states answer, part 11: no condition. -/
import Derived.Test.YtpmlbimlndphhaaGnK
set_option linter.unusedVariables false
set_option linter.unusedSimpArgs false
namespace Go.Proofs.Ytpmlbimlndphhaa.A
open Go Go.Abs
set_option maxRecDepth 100000
set_option maxHeartbeats 16000000 in
noncomputable def LE {n : Nat}{s : Sta}(hs : s.len) (hi : s.i64) : (P1 : Prop) ×' (Hold P1 → (LD (n := n) hs hi).1) := by
  apply PSigma.mk
  intro hP1
  intro hr j0 k0 s0 j1 k1 s1 fC i hli k2 s2 hr' hn hk0 hk1 IHC
  have hnl := hr.2.2.1
  have hi' : i < s2.ths.length := by omega
  have hwi := wrapS (k := i) (by omega)
  have dI := lt_map (f := thA) hi'
  have dZ := nonneg i
  have d1 := dI
  have d2 := dZ
  have hrT : ({ (s2.ths.getD i default) with pc := k2, op := ⟨IntKind.i64.wrap (k2 + 1), IntKind.i64.wrap (IntKind.i64.wrap (k2 + 1) + 1), IntKind.i64.wrap (IntKind.i64.wrap (IntKind.i64.wrap (k2 + 1) + 1) + 1)⟩, res := ⟨IntKind.i64.wrap (IntKind.i64.wrap (IntKind.i64.wrap (IntKind.i64.wrap (k2 + 1) + 1) + 1) + 1), IntKind.i64.wrap (IntKind.i64.wrap (IntKind.i64.wrap (IntKind.i64.wrap (IntKind.i64.wrap (k2 + 1) + 1) + 1) + 1) + 1)⟩, snap := IntKind.i64.wrap (IntKind.i64.wrap (IntKind.i64.wrap (IntKind.i64.wrap (IntKind.i64.wrap (IntKind.i64.wrap (k2 + 1) + 1) + 1) + 1) + 1) + 1), node := IntKind.i64.wrap (IntKind.i64.wrap (IntKind.i64.wrap (IntKind.i64.wrap (IntKind.i64.wrap (IntKind.i64.wrap (IntKind.i64.wrap (k2 + 1) + 1) + 1) + 1) + 1) + 1) + 1), prev := IntKind.i64.wrap (IntKind.i64.wrap (IntKind.i64.wrap (IntKind.i64.wrap (IntKind.i64.wrap (IntKind.i64.wrap (IntKind.i64.wrap (IntKind.i64.wrap (k2 + 1) + 1) + 1) + 1) + 1) + 1) + 1) + 1), curr := IntKind.i64.wrap (IntKind.i64.wrap (IntKind.i64.wrap (IntKind.i64.wrap (IntKind.i64.wrap (IntKind.i64.wrap (IntKind.i64.wrap (IntKind.i64.wrap (IntKind.i64.wrap (k2 + 1) + 1) + 1) + 1) + 1) + 1) + 1) + 1) + 1), next := IntKind.i64.wrap (IntKind.i64.wrap (IntKind.i64.wrap (IntKind.i64.wrap (IntKind.i64.wrap (IntKind.i64.wrap (IntKind.i64.wrap (IntKind.i64.wrap (IntKind.i64.wrap (IntKind.i64.wrap (k2 + 1) + 1) + 1) + 1) + 1) + 1) + 1) + 1) + 1) + 1), seen := IntKind.i64.wrap (IntKind.i64.wrap (IntKind.i64.wrap (IntKind.i64.wrap (IntKind.i64.wrap (IntKind.i64.wrap (IntKind.i64.wrap (IntKind.i64.wrap (IntKind.i64.wrap (IntKind.i64.wrap (IntKind.i64.wrap (k2 + 1) + 1) + 1) + 1) + 1) + 1) + 1) + 1) + 1) + 1) + 1), stamp := IntKind.i64.wrap (IntKind.i64.wrap (IntKind.i64.wrap (IntKind.i64.wrap (IntKind.i64.wrap (IntKind.i64.wrap (IntKind.i64.wrap (IntKind.i64.wrap (IntKind.i64.wrap (IntKind.i64.wrap (IntKind.i64.wrap (IntKind.i64.wrap (k2 + 1) + 1) + 1) + 1) + 1) + 1) + 1) + 1) + 1) + 1) + 1) + 1), pos := IntKind.i64.wrap (IntKind.i64.wrap (IntKind.i64.wrap (IntKind.i64.wrap (IntKind.i64.wrap (IntKind.i64.wrap (IntKind.i64.wrap (IntKind.i64.wrap (IntKind.i64.wrap (IntKind.i64.wrap (IntKind.i64.wrap (IntKind.i64.wrap (IntKind.i64.wrap (k2 + 1) + 1) + 1) + 1) + 1) + 1) + 1) + 1) + 1) + 1) + 1) + 1) + 1) } : Th).room := room_at hr' hi'
  have w1 : IntKind.i64.wrap (k2 + 1) = k2 + 1 := by rw [wrapI (by omega) (by omega)]; first | done | omega
  have w2 : IntKind.i64.wrap (k2 + 1 + 1) = k2 + 2 := by rw [wrapI (by omega) (by omega)]; first | done | omega
  have w3 : IntKind.i64.wrap (k2 + 2 + 1) = k2 + 3 := by rw [wrapI (by omega) (by omega)]; first | done | omega
  have w4 : IntKind.i64.wrap (k2 + 3 + 1) = k2 + 4 := by rw [wrapI (by omega) (by omega)]; first | done | omega
  have w5 : IntKind.i64.wrap (k2 + 4 + 1) = k2 + 5 := by rw [wrapI (by omega) (by omega)]; first | done | omega
  have w6 : IntKind.i64.wrap (k2 + 5 + 1) = k2 + 6 := by rw [wrapI (by omega) (by omega)]; first | done | omega
  have w7 : IntKind.i64.wrap (k2 + 6 + 1) = k2 + 7 := by rw [wrapI (by omega) (by omega)]; first | done | omega
  have w8 : IntKind.i64.wrap (k2 + 7 + 1) = k2 + 8 := by rw [wrapI (by omega) (by omega)]; first | done | omega
  have w9 : IntKind.i64.wrap (k2 + 8 + 1) = k2 + 9 := by rw [wrapI (by omega) (by omega)]; first | done | omega
  have w10 : IntKind.i64.wrap (k2 + 9 + 1) = k2 + 10 := by rw [wrapI (by omega) (by omega)]; first | done | omega
  have w11 : IntKind.i64.wrap (k2 + 10 + 1) = k2 + 11 := by rw [wrapI (by omega) (by omega)]; first | done | omega
  have w12 : IntKind.i64.wrap (k2 + 11 + 1) = k2 + 12 := by rw [wrapI (by omega) (by omega)]; first | done | omega
  have w13 : IntKind.i64.wrap (k2 + 12 + 1) = k2 + 13 := by rw [wrapI (by omega) (by omega)]; first | done | omega
  have w14 : IntKind.i64.wrap (k2 + 13 + 1) = k2 + 14 := by rw [wrapI (by omega) (by omega)]; first | done | omega
  refine (evLoop_gen (fun e (x : Nat × Int × Sta) => (e.set 5 (.int .i64 (x.1 : Int))).set 1 (.int .i64 x.2.1)) (fun h x => h.set 5 (some ⟨false, false, true, 13, [staA x.2.2]⟩)) (fun _ => some ⟨.bool true, []⟩) (fun x => x.2.2.room ∧ x.2.2.ths.length = s.ths.length ∧ x.1 ≤ (x.2.2.ths.getD i default).found.length ∧ 0 ≤ x.2.1 ∧ x.2.1 ≤ 2097153 + 16777216 * (i : Int) + 14 + 1 * (x.1 : Int)) (fun x => (x.2.2.ths.getD i default).found.length - x.1) (0, IntKind.i64.wrap (IntKind.i64.wrap (IntKind.i64.wrap (IntKind.i64.wrap (IntKind.i64.wrap (IntKind.i64.wrap (IntKind.i64.wrap (IntKind.i64.wrap (IntKind.i64.wrap (IntKind.i64.wrap (IntKind.i64.wrap (IntKind.i64.wrap (IntKind.i64.wrap (IntKind.i64.wrap (k2 + 1) + 1) + 1) + 1) + 1) + 1) + 1) + 1) + 1) + 1) + 1) + 1) + 1) + 1), { s2 with ths := s2.ths.set i { (s2.ths.getD i default) with pc := k2, op := ⟨IntKind.i64.wrap (k2 + 1), IntKind.i64.wrap (IntKind.i64.wrap (k2 + 1) + 1), IntKind.i64.wrap (IntKind.i64.wrap (IntKind.i64.wrap (k2 + 1) + 1) + 1)⟩, res := ⟨IntKind.i64.wrap (IntKind.i64.wrap (IntKind.i64.wrap (IntKind.i64.wrap (k2 + 1) + 1) + 1) + 1), IntKind.i64.wrap (IntKind.i64.wrap (IntKind.i64.wrap (IntKind.i64.wrap (IntKind.i64.wrap (k2 + 1) + 1) + 1) + 1) + 1)⟩, snap := IntKind.i64.wrap (IntKind.i64.wrap (IntKind.i64.wrap (IntKind.i64.wrap (IntKind.i64.wrap (IntKind.i64.wrap (k2 + 1) + 1) + 1) + 1) + 1) + 1), node := IntKind.i64.wrap (IntKind.i64.wrap (IntKind.i64.wrap (IntKind.i64.wrap (IntKind.i64.wrap (IntKind.i64.wrap (IntKind.i64.wrap (k2 + 1) + 1) + 1) + 1) + 1) + 1) + 1), prev := IntKind.i64.wrap (IntKind.i64.wrap (IntKind.i64.wrap (IntKind.i64.wrap (IntKind.i64.wrap (IntKind.i64.wrap (IntKind.i64.wrap (IntKind.i64.wrap (k2 + 1) + 1) + 1) + 1) + 1) + 1) + 1) + 1), curr := IntKind.i64.wrap (IntKind.i64.wrap (IntKind.i64.wrap (IntKind.i64.wrap (IntKind.i64.wrap (IntKind.i64.wrap (IntKind.i64.wrap (IntKind.i64.wrap (IntKind.i64.wrap (k2 + 1) + 1) + 1) + 1) + 1) + 1) + 1) + 1) + 1), next := IntKind.i64.wrap (IntKind.i64.wrap (IntKind.i64.wrap (IntKind.i64.wrap (IntKind.i64.wrap (IntKind.i64.wrap (IntKind.i64.wrap (IntKind.i64.wrap (IntKind.i64.wrap (IntKind.i64.wrap (k2 + 1) + 1) + 1) + 1) + 1) + 1) + 1) + 1) + 1) + 1), seen := IntKind.i64.wrap (IntKind.i64.wrap (IntKind.i64.wrap (IntKind.i64.wrap (IntKind.i64.wrap (IntKind.i64.wrap (IntKind.i64.wrap (IntKind.i64.wrap (IntKind.i64.wrap (IntKind.i64.wrap (IntKind.i64.wrap (k2 + 1) + 1) + 1) + 1) + 1) + 1) + 1) + 1) + 1) + 1) + 1), stamp := IntKind.i64.wrap (IntKind.i64.wrap (IntKind.i64.wrap (IntKind.i64.wrap (IntKind.i64.wrap (IntKind.i64.wrap (IntKind.i64.wrap (IntKind.i64.wrap (IntKind.i64.wrap (IntKind.i64.wrap (IntKind.i64.wrap (IntKind.i64.wrap (k2 + 1) + 1) + 1) + 1) + 1) + 1) + 1) + 1) + 1) + 1) + 1) + 1), pos := IntKind.i64.wrap (IntKind.i64.wrap (IntKind.i64.wrap (IntKind.i64.wrap (IntKind.i64.wrap (IntKind.i64.wrap (IntKind.i64.wrap (IntKind.i64.wrap (IntKind.i64.wrap (IntKind.i64.wrap (IntKind.i64.wrap (IntKind.i64.wrap (IntKind.i64.wrap (k2 + 1) + 1) + 1) + 1) + 1) + 1) + 1) + 1) + 1) + 1) + 1) + 1) + 1) } }) (by rw [staA_ths]; first | done | rfl) ⟨(room_set hr' hrT), (by show (s2.ths.set i _).length = _; rw [List.length_set]; exact hn), Nat.zero_le _, (by show 0 ≤ IntKind.i64.wrap (IntKind.i64.wrap (IntKind.i64.wrap (IntKind.i64.wrap (IntKind.i64.wrap (IntKind.i64.wrap (IntKind.i64.wrap (IntKind.i64.wrap (IntKind.i64.wrap (IntKind.i64.wrap (IntKind.i64.wrap (IntKind.i64.wrap (IntKind.i64.wrap (IntKind.i64.wrap (k2 + 1) + 1) + 1) + 1) + 1) + 1) + 1) + 1) + 1) + 1) + 1) + 1) + 1) + 1); rw [w1, w2, w3, w4, w5, w6, w7, w8, w9, w10, w11, w12, w13, w14]; omega), (by show IntKind.i64.wrap (IntKind.i64.wrap (IntKind.i64.wrap (IntKind.i64.wrap (IntKind.i64.wrap (IntKind.i64.wrap (IntKind.i64.wrap (IntKind.i64.wrap (IntKind.i64.wrap (IntKind.i64.wrap (IntKind.i64.wrap (IntKind.i64.wrap (IntKind.i64.wrap (IntKind.i64.wrap (k2 + 1) + 1) + 1) + 1) + 1) + 1) + 1) + 1) + 1) + 1) + 1) + 1) + 1) + 1) ≤ 2097153 + 16777216 * (i : Int) + 14 + 1 * ((0 : Nat) : Int); rw [w1, w2, w3, w4, w5, w6, w7, w8, w9, w10, w11, w12, w13, w14]; omega)⟩ (by have hrr : ({ s2 with ths := s2.ths.set i { (s2.ths.getD i default) with pc := k2, op := ⟨IntKind.i64.wrap (k2 + 1), IntKind.i64.wrap (IntKind.i64.wrap (k2 + 1) + 1), IntKind.i64.wrap (IntKind.i64.wrap (IntKind.i64.wrap (k2 + 1) + 1) + 1)⟩, res := ⟨IntKind.i64.wrap (IntKind.i64.wrap (IntKind.i64.wrap (IntKind.i64.wrap (k2 + 1) + 1) + 1) + 1), IntKind.i64.wrap (IntKind.i64.wrap (IntKind.i64.wrap (IntKind.i64.wrap (IntKind.i64.wrap (k2 + 1) + 1) + 1) + 1) + 1)⟩, snap := IntKind.i64.wrap (IntKind.i64.wrap (IntKind.i64.wrap (IntKind.i64.wrap (IntKind.i64.wrap (IntKind.i64.wrap (k2 + 1) + 1) + 1) + 1) + 1) + 1), node := IntKind.i64.wrap (IntKind.i64.wrap (IntKind.i64.wrap (IntKind.i64.wrap (IntKind.i64.wrap (IntKind.i64.wrap (IntKind.i64.wrap (k2 + 1) + 1) + 1) + 1) + 1) + 1) + 1), prev := IntKind.i64.wrap (IntKind.i64.wrap (IntKind.i64.wrap (IntKind.i64.wrap (IntKind.i64.wrap (IntKind.i64.wrap (IntKind.i64.wrap (IntKind.i64.wrap (k2 + 1) + 1) + 1) + 1) + 1) + 1) + 1) + 1), curr := IntKind.i64.wrap (IntKind.i64.wrap (IntKind.i64.wrap (IntKind.i64.wrap (IntKind.i64.wrap (IntKind.i64.wrap (IntKind.i64.wrap (IntKind.i64.wrap (IntKind.i64.wrap (k2 + 1) + 1) + 1) + 1) + 1) + 1) + 1) + 1) + 1), next := IntKind.i64.wrap (IntKind.i64.wrap (IntKind.i64.wrap (IntKind.i64.wrap (IntKind.i64.wrap (IntKind.i64.wrap (IntKind.i64.wrap (IntKind.i64.wrap (IntKind.i64.wrap (IntKind.i64.wrap (k2 + 1) + 1) + 1) + 1) + 1) + 1) + 1) + 1) + 1) + 1), seen := IntKind.i64.wrap (IntKind.i64.wrap (IntKind.i64.wrap (IntKind.i64.wrap (IntKind.i64.wrap (IntKind.i64.wrap (IntKind.i64.wrap (IntKind.i64.wrap (IntKind.i64.wrap (IntKind.i64.wrap (IntKind.i64.wrap (k2 + 1) + 1) + 1) + 1) + 1) + 1) + 1) + 1) + 1) + 1) + 1), stamp := IntKind.i64.wrap (IntKind.i64.wrap (IntKind.i64.wrap (IntKind.i64.wrap (IntKind.i64.wrap (IntKind.i64.wrap (IntKind.i64.wrap (IntKind.i64.wrap (IntKind.i64.wrap (IntKind.i64.wrap (IntKind.i64.wrap (IntKind.i64.wrap (k2 + 1) + 1) + 1) + 1) + 1) + 1) + 1) + 1) + 1) + 1) + 1) + 1), pos := IntKind.i64.wrap (IntKind.i64.wrap (IntKind.i64.wrap (IntKind.i64.wrap (IntKind.i64.wrap (IntKind.i64.wrap (IntKind.i64.wrap (IntKind.i64.wrap (IntKind.i64.wrap (IntKind.i64.wrap (IntKind.i64.wrap (IntKind.i64.wrap (IntKind.i64.wrap (k2 + 1) + 1) + 1) + 1) + 1) + 1) + 1) + 1) + 1) + 1) + 1) + 1) + 1) } } : Sta).room := (room_set hr' hrT); have hnn : ({ s2 with ths := s2.ths.set i { (s2.ths.getD i default) with pc := k2, op := ⟨IntKind.i64.wrap (k2 + 1), IntKind.i64.wrap (IntKind.i64.wrap (k2 + 1) + 1), IntKind.i64.wrap (IntKind.i64.wrap (IntKind.i64.wrap (k2 + 1) + 1) + 1)⟩, res := ⟨IntKind.i64.wrap (IntKind.i64.wrap (IntKind.i64.wrap (IntKind.i64.wrap (k2 + 1) + 1) + 1) + 1), IntKind.i64.wrap (IntKind.i64.wrap (IntKind.i64.wrap (IntKind.i64.wrap (IntKind.i64.wrap (k2 + 1) + 1) + 1) + 1) + 1)⟩, snap := IntKind.i64.wrap (IntKind.i64.wrap (IntKind.i64.wrap (IntKind.i64.wrap (IntKind.i64.wrap (IntKind.i64.wrap (k2 + 1) + 1) + 1) + 1) + 1) + 1), node := IntKind.i64.wrap (IntKind.i64.wrap (IntKind.i64.wrap (IntKind.i64.wrap (IntKind.i64.wrap (IntKind.i64.wrap (IntKind.i64.wrap (k2 + 1) + 1) + 1) + 1) + 1) + 1) + 1), prev := IntKind.i64.wrap (IntKind.i64.wrap (IntKind.i64.wrap (IntKind.i64.wrap (IntKind.i64.wrap (IntKind.i64.wrap (IntKind.i64.wrap (IntKind.i64.wrap (k2 + 1) + 1) + 1) + 1) + 1) + 1) + 1) + 1), curr := IntKind.i64.wrap (IntKind.i64.wrap (IntKind.i64.wrap (IntKind.i64.wrap (IntKind.i64.wrap (IntKind.i64.wrap (IntKind.i64.wrap (IntKind.i64.wrap (IntKind.i64.wrap (k2 + 1) + 1) + 1) + 1) + 1) + 1) + 1) + 1) + 1), next := IntKind.i64.wrap (IntKind.i64.wrap (IntKind.i64.wrap (IntKind.i64.wrap (IntKind.i64.wrap (IntKind.i64.wrap (IntKind.i64.wrap (IntKind.i64.wrap (IntKind.i64.wrap (IntKind.i64.wrap (k2 + 1) + 1) + 1) + 1) + 1) + 1) + 1) + 1) + 1) + 1), seen := IntKind.i64.wrap (IntKind.i64.wrap (IntKind.i64.wrap (IntKind.i64.wrap (IntKind.i64.wrap (IntKind.i64.wrap (IntKind.i64.wrap (IntKind.i64.wrap (IntKind.i64.wrap (IntKind.i64.wrap (IntKind.i64.wrap (k2 + 1) + 1) + 1) + 1) + 1) + 1) + 1) + 1) + 1) + 1) + 1), stamp := IntKind.i64.wrap (IntKind.i64.wrap (IntKind.i64.wrap (IntKind.i64.wrap (IntKind.i64.wrap (IntKind.i64.wrap (IntKind.i64.wrap (IntKind.i64.wrap (IntKind.i64.wrap (IntKind.i64.wrap (IntKind.i64.wrap (IntKind.i64.wrap (k2 + 1) + 1) + 1) + 1) + 1) + 1) + 1) + 1) + 1) + 1) + 1) + 1), pos := IntKind.i64.wrap (IntKind.i64.wrap (IntKind.i64.wrap (IntKind.i64.wrap (IntKind.i64.wrap (IntKind.i64.wrap (IntKind.i64.wrap (IntKind.i64.wrap (IntKind.i64.wrap (IntKind.i64.wrap (IntKind.i64.wrap (IntKind.i64.wrap (IntKind.i64.wrap (k2 + 1) + 1) + 1) + 1) + 1) + 1) + 1) + 1) + 1) + 1) + 1) + 1) + 1) } } : Sta).ths.length = s.ths.length := (by show (s2.ths.set i _).length = _; rw [List.length_set]; exact hn); have := room_at (i := i) hrr (by omega); unfold Th.room at this; show (({ s2 with ths := s2.ths.set i { (s2.ths.getD i default) with pc := k2, op := ⟨IntKind.i64.wrap (k2 + 1), IntKind.i64.wrap (IntKind.i64.wrap (k2 + 1) + 1), IntKind.i64.wrap (IntKind.i64.wrap (IntKind.i64.wrap (k2 + 1) + 1) + 1)⟩, res := ⟨IntKind.i64.wrap (IntKind.i64.wrap (IntKind.i64.wrap (IntKind.i64.wrap (k2 + 1) + 1) + 1) + 1), IntKind.i64.wrap (IntKind.i64.wrap (IntKind.i64.wrap (IntKind.i64.wrap (IntKind.i64.wrap (k2 + 1) + 1) + 1) + 1) + 1)⟩, snap := IntKind.i64.wrap (IntKind.i64.wrap (IntKind.i64.wrap (IntKind.i64.wrap (IntKind.i64.wrap (IntKind.i64.wrap (k2 + 1) + 1) + 1) + 1) + 1) + 1), node := IntKind.i64.wrap (IntKind.i64.wrap (IntKind.i64.wrap (IntKind.i64.wrap (IntKind.i64.wrap (IntKind.i64.wrap (IntKind.i64.wrap (k2 + 1) + 1) + 1) + 1) + 1) + 1) + 1), prev := IntKind.i64.wrap (IntKind.i64.wrap (IntKind.i64.wrap (IntKind.i64.wrap (IntKind.i64.wrap (IntKind.i64.wrap (IntKind.i64.wrap (IntKind.i64.wrap (k2 + 1) + 1) + 1) + 1) + 1) + 1) + 1) + 1), curr := IntKind.i64.wrap (IntKind.i64.wrap (IntKind.i64.wrap (IntKind.i64.wrap (IntKind.i64.wrap (IntKind.i64.wrap (IntKind.i64.wrap (IntKind.i64.wrap (IntKind.i64.wrap (k2 + 1) + 1) + 1) + 1) + 1) + 1) + 1) + 1) + 1), next := IntKind.i64.wrap (IntKind.i64.wrap (IntKind.i64.wrap (IntKind.i64.wrap (IntKind.i64.wrap (IntKind.i64.wrap (IntKind.i64.wrap (IntKind.i64.wrap (IntKind.i64.wrap (IntKind.i64.wrap (k2 + 1) + 1) + 1) + 1) + 1) + 1) + 1) + 1) + 1) + 1), seen := IntKind.i64.wrap (IntKind.i64.wrap (IntKind.i64.wrap (IntKind.i64.wrap (IntKind.i64.wrap (IntKind.i64.wrap (IntKind.i64.wrap (IntKind.i64.wrap (IntKind.i64.wrap (IntKind.i64.wrap (IntKind.i64.wrap (k2 + 1) + 1) + 1) + 1) + 1) + 1) + 1) + 1) + 1) + 1) + 1), stamp := IntKind.i64.wrap (IntKind.i64.wrap (IntKind.i64.wrap (IntKind.i64.wrap (IntKind.i64.wrap (IntKind.i64.wrap (IntKind.i64.wrap (IntKind.i64.wrap (IntKind.i64.wrap (IntKind.i64.wrap (IntKind.i64.wrap (IntKind.i64.wrap (k2 + 1) + 1) + 1) + 1) + 1) + 1) + 1) + 1) + 1) + 1) + 1) + 1), pos := IntKind.i64.wrap (IntKind.i64.wrap (IntKind.i64.wrap (IntKind.i64.wrap (IntKind.i64.wrap (IntKind.i64.wrap (IntKind.i64.wrap (IntKind.i64.wrap (IntKind.i64.wrap (IntKind.i64.wrap (IntKind.i64.wrap (IntKind.i64.wrap (IntKind.i64.wrap (k2 + 1) + 1) + 1) + 1) + 1) + 1) + 1) + 1) + 1) + 1) + 1) + 1) + 1) } } : Sta).ths.getD i default).found.length - 0 < 18446744073709551616; omega) ?_).trans rfl
  clear hk1 hk0 hn hr' hi' d1 d2 dI dZ hrT w1 w2 w3 w4 w5 w6 w7 w8 w9 w10 w11 w12 w13 w14
  rintro ⟨j, k, s'⟩ IH1f ⟨hr', hn, hj, hk0, hk1⟩ IH1
  simp only at hr' hn hj hk0 hk1
  have hi' : i < s'.ths.length := by omega
  have hrt := room_at hr' hi'
  obtain ⟨g1, g2, g3, g4, g5⟩ := hrt
  have r1 := map_get (f := thA) hi'
  by_cases hlj : j < (s'.ths.getD i default).found.length
  · have d1 := lt_map (f := iA) hlj
    have d2 := nonneg j
    have r2 := map_get (f := iA) hlj
    have hwj := wrapS (k := j) (by omega)
    have w1 : IntKind.i64.wrap (k + 1) = k + 1 := by rw [wrapI (by omega) (by omega)]; first | done | omega
    have hL : j < ((s'.ths.getD i default).found.map iA).length := by rw [List.length_map]; exact hlj
    have st1 := r1
    have st2 := r2
    refine go ?_
    clear st1 st2
    try with_reducible rfl
    refine IH1 (j + 1, IntKind.i64.wrap (k + 1), { s' with ths := s'.ths.set i { (s'.ths.getD i default) with found := (s'.ths.getD i default).found.set j k } }) _ _ ⟨room_set hr' (by unfold Th.room; simp only [List.length_set]; exact ⟨g1, g2, g3, g4, g5⟩), by show (s'.ths.set i _).length = _; rw [List.length_set]; exact hn, by show j + 1 ≤ ((s'.ths.set i { (s'.ths.getD i default) with found := (s'.ths.getD i default).found.set j k }).getD i default).found.length; rw [getD_setT hi']; simp only [List.length_set]; exact hlj, by show 0 ≤ IntKind.i64.wrap (k + 1); rw [w1]; omega, by show IntKind.i64.wrap (k + 1) ≤ 2097153 + 16777216 * (i : Int) + 14 + 1 * ((j + 1 : Nat) : Int); rw [w1]; omega⟩ (by show ((s'.ths.set i { (s'.ths.getD i default) with found := (s'.ths.getD i default).found.set j k }).getD i default).found.length - (j + 1) < (s'.ths.getD i default).found.length - j; rw [getD_setT hi']; simp only [List.length_set]; omega) (by rw [hwj]; rfl) (by rw [staA_ths, thA_found]; first | done | rfl)
  · have d1 := nlt_map (f := iA) (Nat.le_of_not_lt hlj)
    have hj1 : j ≤ 1048576 := by omega
    replace hk1 : k ≤ 2097153 + 16777216 * (i : Int) + 14 + 1 * 1048576 := by omega
    have dI := lt_map (f := thA) hi'
    have dZ := nonneg i
    refine go ?_
    clear hlj d1 IH1 hj g1 g2 g3 g4 g5 r1 dI dZ hi' hwi hnl
    revert IHC
    revert hk1
    revert hk0
    revert hn
    revert hr'
    revert hj1
    revert s'
    revert k
    revert j
    revert hli
    revert i
    revert fC
    revert s2
    revert k2
    revert s1
    revert k1
    revert j1
    revert s0
    revert k0
    revert j0
    revert hr
    exact hP1.h
end Go.Proofs.Ytpmlbimlndphhaa.A
namespace Go.Proofs.Ytpmlbimlndphhaa.A
open Go Go.Abs
set_option maxRecDepth 100000
set_option maxHeartbeats 16000000 in
noncomputable def LF {n : Nat}{s : Sta}(hs : s.len) (hi : s.i64) : (P1 : Prop) ×' (Hold P1 → (LE (n := n) hs hi).1) := by
  apply PSigma.mk
  intro hP1
  intro hr j0 k0 s0 j1 k1 s1 k2 s2 fC i hli j3 k3 s3 hj3 hr' hn hk0 hk1 IHC
  have hnl := hr.2.2.1
  have hi' : i < s3.ths.length := by omega
  have hwi := wrapS (k := i) (by omega)
  have dI := lt_map (f := thA) hi'
  have dZ := nonneg i
  have d1 := dI
  have d2 := dZ
  refine (evLoop_gen (fun e (x : Nat × Int × Sta) => (e.set 5 (.int .i64 (x.1 : Int))).set 1 (.int .i64 x.2.1)) (fun h x => h.set 5 (some ⟨false, false, true, 13, [staA x.2.2]⟩)) (fun _ => some ⟨.bool true, []⟩) (fun x => x.2.2.room ∧ x.2.2.ths.length = s.ths.length ∧ x.1 ≤ (x.2.2.ths.getD i default).free.length ∧ 0 ≤ x.2.1 ∧ x.2.1 ≤ 2097153 + 16777216 * (i : Int) + 14 + 1048576 + 1 * (x.1 : Int)) (fun x => (x.2.2.ths.getD i default).free.length - x.1) (0, k3, s3) rfl ⟨hr', hn, Nat.zero_le _, hk0, by show k3 ≤ 2097153 + 16777216 * (i : Int) + 14 + 1048576 + 1 * ((0 : Nat) : Int); omega⟩ (by have hrr : (s3 : Sta).room := hr'; have hnn : (s3 : Sta).ths.length = s.ths.length := hn; have := room_at (i := i) hrr (by omega); unfold Th.room at this; show ((s3 : Sta).ths.getD i default).free.length - 0 < 18446744073709551616; omega) ?_).trans rfl
  clear hk1 hk0 hn hr' hi' d1 d2 dI dZ hj3
  rintro ⟨j, k, s'⟩ IH2f ⟨hr', hn, hj, hk0, hk1⟩ IH2
  simp only at hr' hn hj hk0 hk1
  have hi' : i < s'.ths.length := by omega
  have hrt := room_at hr' hi'
  obtain ⟨g1, g2, g3, g4, g5⟩ := hrt
  have r1 := map_get (f := thA) hi'
  by_cases hlj : j < (s'.ths.getD i default).free.length
  · have d1 := lt_map (f := iA) hlj
    have d2 := nonneg j
    have r2 := map_get (f := iA) hlj
    have hwj := wrapS (k := j) (by omega)
    have w1 : IntKind.i64.wrap (k + 1) = k + 1 := by rw [wrapI (by omega) (by omega)]; first | done | omega
    have hL : j < ((s'.ths.getD i default).free.map iA).length := by rw [List.length_map]; exact hlj
    have st1 := r1
    have st2 := r2
    refine go ?_
    clear st1 st2
    try with_reducible rfl
    refine IH2 (j + 1, IntKind.i64.wrap (k + 1), { s' with ths := s'.ths.set i { (s'.ths.getD i default) with free := (s'.ths.getD i default).free.set j k } }) _ _ ⟨room_set hr' (by unfold Th.room; simp only [List.length_set]; exact ⟨g1, g2, g3, g4, g5⟩), by show (s'.ths.set i _).length = _; rw [List.length_set]; exact hn, by show j + 1 ≤ ((s'.ths.set i { (s'.ths.getD i default) with free := (s'.ths.getD i default).free.set j k }).getD i default).free.length; rw [getD_setT hi']; simp only [List.length_set]; exact hlj, by show 0 ≤ IntKind.i64.wrap (k + 1); rw [w1]; omega, by show IntKind.i64.wrap (k + 1) ≤ 2097153 + 16777216 * (i : Int) + 14 + 1048576 + 1 * ((j + 1 : Nat) : Int); rw [w1]; omega⟩ (by show ((s'.ths.set i { (s'.ths.getD i default) with free := (s'.ths.getD i default).free.set j k }).getD i default).free.length - (j + 1) < (s'.ths.getD i default).free.length - j; rw [getD_setT hi']; simp only [List.length_set]; omega) (by rw [hwj]; rfl) (by rw [staA_ths, thA_free]; first | done | rfl)
  · have d1 := nlt_map (f := iA) (Nat.le_of_not_lt hlj)
    have hj1 : j ≤ 1048576 := by omega
    replace hk1 : k ≤ 2097153 + 16777216 * (i : Int) + 14 + 1048576 + 1 * 1048576 := by omega
    have dI := lt_map (f := thA) hi'
    have dZ := nonneg i
    refine go ?_
    clear hlj d1 IH2 hj g1 g2 g3 g4 g5 r1 dI dZ hi' hwi hnl
    revert IHC
    revert hk1
    revert hk0
    revert hn
    revert hr'
    revert hj1
    revert s'
    revert k
    revert j
    revert hli
    revert i
    revert fC
    revert s3
    revert k3
    revert j3
    revert s2
    revert k2
    revert s1
    revert k1
    revert j1
    revert s0
    revert k0
    revert j0
    revert hr
    exact hP1.h
end Go.Proofs.Ytpmlbimlndphhaa.A
