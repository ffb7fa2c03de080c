/- What the functions of the states answer, part 15: no condition. -/
import Derived.Test.YtpmlbimlndphhaaGnO
set_option linter.unusedVariables false
set_option linter.unusedSimpArgs false
namespace Go.Proofs.Ytpmlbimlndphhaa.A
open Go Go.Abs
set_option maxRecDepth 100000
set_option maxHeartbeats 16000000 in
noncomputable def MD {n : Nat}{s : Sta} {t : Int}(hs : s.len) (hi : s.i64) : (P1 : Prop) ×' (Hold P1 → (P2 : Prop) ×' (Hold P2 → (MC (n := n) (t := t) hs hi).1)) := by
  apply PSigma.mk
  intro hP1
  apply PSigma.mk
  intro hP2
  intro hr j0 k0 s0 j1 k1 s1 hj1 hr' hn hk0 hk1
  have hnl := hr.2.2.1
  refine (evLoop_gen (fun e (x : Nat × Int × Sta) => (e.set 5 (.int .i64 (x.1 : Int))).set 1 (.int .i64 x.2.1)) (fun h x => h.set 5 (some ⟨false, false, true, 13, [staA x.2.2]⟩)) (fun _ => some ⟨.bool true, []⟩) (fun x => x.2.2.room ∧ x.2.2.ths.length = s.ths.length ∧ x.1 ≤ s.ths.length ∧ 0 ≤ x.2.1 ∧ x.2.1 ≤ 2097153 + 16777216 * (x.1 : Int)) (fun x => s.ths.length - x.1) (0, k1, s1) rfl ⟨hr', hn, Nat.zero_le _, hk0, by show k1 ≤ 2097153 + 16777216 * ((0 : Nat) : Int); omega⟩ (by show _ - _ < 18446744073709551616; omega) ?_).trans rfl
  clear hk1 hk0 hn hr'
  rintro ⟨i, k, s'⟩ fC ⟨hr', hn, hj, hk0, hk1⟩ IHC
  replace IHC := fun (y : Nat × Int × Sta) e' h' hy (hm : s.ths.length - y.1 < s.ths.length - i) => IHC y e' h' hy hm
  simp only at hr' hn hj hk0 hk1
  by_cases hli : i < s.ths.length
  · have hi' : i < s'.ths.length := by omega
    have d1 := lt_map (f := thA) hi'
    have d2 := nonneg i
    have r1 := map_get (f := thA) hi'
    have hwi := wrapS (k := i) (by omega)
    have hL : i < (s'.ths.map thA).length := by rw [List.length_map]; exact hi'
    have d3 : ∀ row, decide ((i : Int) < (((s'.ths.map thA).set i row).length : Int)) = true := fun row => by rw [List.length_set]; exact d1
    have w1 : IntKind.i64.wrap (k + 1) = k + 1 := by rw [wrapI (by omega) (by omega)]; first | done | omega
    have w2 : IntKind.i64.wrap (k + 1 + 1) = k + 2 := by rw [wrapI (by omega) (by omega)]; first | done | omega
    have w3 : IntKind.i64.wrap (k + 2 + 1) = k + 3 := by rw [wrapI (by omega) (by omega)]; first | done | omega
    have w4 : IntKind.i64.wrap (k + 3 + 1) = k + 4 := by rw [wrapI (by omega) (by omega)]; first | done | omega
    have w5 : IntKind.i64.wrap (k + 4 + 1) = k + 5 := by rw [wrapI (by omega) (by omega)]; first | done | omega
    have w6 : IntKind.i64.wrap (k + 5 + 1) = k + 6 := by rw [wrapI (by omega) (by omega)]; first | done | omega
    have w7 : IntKind.i64.wrap (k + 6 + 1) = k + 7 := by rw [wrapI (by omega) (by omega)]; first | done | omega
    have w8 : IntKind.i64.wrap (k + 7 + 1) = k + 8 := by rw [wrapI (by omega) (by omega)]; first | done | omega
    have w9 : IntKind.i64.wrap (k + 8 + 1) = k + 9 := by rw [wrapI (by omega) (by omega)]; first | done | omega
    have w10 : IntKind.i64.wrap (k + 9 + 1) = k + 10 := by rw [wrapI (by omega) (by omega)]; first | done | omega
    have w11 : IntKind.i64.wrap (k + 10 + 1) = k + 11 := by rw [wrapI (by omega) (by omega)]; first | done | omega
    have w12 : IntKind.i64.wrap (k + 11 + 1) = k + 12 := by rw [wrapI (by omega) (by omega)]; first | done | omega
    have w13 : IntKind.i64.wrap (k + 12 + 1) = k + 13 := by rw [wrapI (by omega) (by omega)]; first | done | omega
    have w14 : IntKind.i64.wrap (k + 13 + 1) = k + 14 := by rw [wrapI (by omega) (by omega)]; first | done | omega
    have x1 := fun {row : List AV} {x y : R} => br_pos (x := x) (y := y) (d3 row)
    have st1 := r1
    refine go ?_
    clear st1
    clear x1 w1 w2 w3 w4 w5 w6 w7 w8 w9 w10 w11 w12 w13 w14 d3 hL hwi r1 d2 d1 hi' hj hnl hj1
    revert IHC
    revert hk1
    revert hk0
    revert hn
    revert hr'
    revert s'
    revert k
    revert hli
    revert i
    revert fC
    revert s1
    revert k1
    revert j1
    revert s0
    revert k0
    revert j0
    revert hr
    exact hP1.h
  · have d1 := nlt_map (xs := s'.ths) (k := i) (f := thA) (by omega)
    have hi1 : (i : Int) ≤ 1048576 := by omega
    replace hk1 : k ≤ 17592190238721 := by omega
    clear d1 hj IHC hnl hj1
    revert hk1
    revert hk0
    revert hn
    revert hr'
    revert hi1
    revert s'
    revert k
    revert hli
    revert i
    revert fC
    revert s1
    revert k1
    revert j1
    revert s0
    revert k0
    revert j0
    revert hr
    exact hP2.h
end Go.Proofs.Ytpmlbimlndphhaa.A
