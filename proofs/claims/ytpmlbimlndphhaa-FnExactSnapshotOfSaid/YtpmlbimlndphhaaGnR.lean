/- What the functions of the states answer, part 17: no condition. -/
import Derived.Test.YtpmlbimlndphhaaGnQ
set_option linter.unusedVariables false
set_option linter.unusedSimpArgs false
namespace Go.Proofs.Ytpmlbimlndphhaa.A
open Go Go.Abs
set_option maxRecDepth 100000
set_option maxHeartbeats 16000000 in
noncomputable def MG {n : Nat}{s : Sta} {t : Int}(hs : s.len) (hi : s.i64) : (P1 : Prop) ×' (Hold P1 → (MF (n := n) (t := t) hs hi).1) := by
  apply PSigma.mk
  intro hP1
  intro hr j0 k0 s0 j1 k1 s1 k2 s2 j3 k3 s3 fC i hli j4 k4 s4 hj4 hr' hn hk0 hk1 IHC
  have hnl := hr.2.2.1
  have hi' : i < s4.ths.length := by omega
  have hwi := wrapS (k := i) (by omega)
  have dI := lt_map (f := thA) hi'
  have dZ := nonneg i
  have d1 := dI
  have d2 := dZ
  refine (evLoop_gen (fun e (x : Nat × Int × Sta) => (e.set 5 (.int .i64 (x.1 : Int))).set 1 (.int .i64 x.2.1)) (fun h x => h.set 5 (some ⟨false, false, true, 13, [staA x.2.2]⟩)) (fun _ => some ⟨.bool true, []⟩) (fun x => x.2.2.room ∧ x.2.2.ths.length = s.ths.length ∧ x.1 ≤ (x.2.2.ths.getD i default).buf.length ∧ 0 ≤ x.2.1 ∧ x.2.1 ≤ 2097153 + 16777216 * (i : Int) + 14 + 2 * 1048576 + 4 * (x.1 : Int)) (fun x => (x.2.2.ths.getD i default).buf.length - x.1) (0, k4, s4) rfl ⟨hr', hn, Nat.zero_le _, hk0, by show k4 ≤ 2097153 + 16777216 * (i : Int) + 14 + 2 * 1048576 + 4 * ((0 : Nat) : Int); omega⟩ (by have hrr : (s4 : Sta).room := hr'; have hnn : (s4 : Sta).ths.length = s.ths.length := hn; have := room_at (i := i) hrr (by omega); unfold Th.room at this; show ((s4 : Sta).ths.getD i default).buf.length - 0 < 18446744073709551616; omega) ?_).trans rfl
  clear hk1 hk0 hn hr' hi' d1 d2 dI dZ hj4
  rintro ⟨j, k, s'⟩ IH3f ⟨hr', hn, hj, hk0, hk1⟩ IH3
  simp only at hr' hn hj hk0 hk1
  have hi' : i < s'.ths.length := by omega
  have hrt := room_at hr' hi'
  obtain ⟨g1, g2, g3, g4, g5⟩ := hrt
  have r1 := map_get (f := thA) hi'
  by_cases hlj : j < (s'.ths.getD i default).buf.length
  · have d1 := lt_map (f := entA) hlj
    have d2 := nonneg j
    have r2 := map_get (f := entA) hlj
    have hwj := wrapS (k := j) (by omega)
    have w1 : IntKind.i64.wrap (k + 1) = k + 1 := by rw [wrapI (by omega) (by omega)]; first | done | omega
    have w2 : IntKind.i64.wrap (k + 1 + 1) = k + 2 := by rw [wrapI (by omega) (by omega)]; first | done | omega
    have w3 : IntKind.i64.wrap (k + 2 + 1) = k + 3 := by rw [wrapI (by omega) (by omega)]; first | done | omega
    have w4 : IntKind.i64.wrap (k + 3 + 1) = k + 4 := by rw [wrapI (by omega) (by omega)]; first | done | omega
    have hL : j < ((s'.ths.getD i default).buf.map entA).length := by rw [List.length_map]; exact hlj
    have hM : i < (s'.ths.map thA).length := by rw [List.length_map]; exact hi'
    have d3 : ∀ row, decide ((j : Int) < ((((s'.ths.getD i default).buf.map entA).set j row).length : Int)) = true := fun row => by rw [List.length_set]; exact d1
    have x1 := fun {row : List AV} {x y : R} => br_pos (x := x) (y := y) (d3 row)
    have st1 := r1
    have st2 := r2
    refine gx ?_
    clear st1 st2
    try with_reducible rfl
    refine IH3 (j + 1, IntKind.i64.wrap (IntKind.i64.wrap (IntKind.i64.wrap (IntKind.i64.wrap (k + 1) + 1) + 1) + 1), { s' with ths := s'.ths.set i { (s'.ths.getD i default) with buf := (s'.ths.getD i default).buf.set j ⟨k, IntKind.i64.wrap (k + 1), IntKind.i64.wrap (IntKind.i64.wrap (k + 1) + 1), IntKind.i64.wrap (IntKind.i64.wrap (IntKind.i64.wrap (k + 1) + 1) + 1)⟩ } }) _ _ ⟨room_set hr' (by unfold Th.room; simp only [List.length_set]; exact ⟨g1, g2, g3, g4, g5⟩), by show (s'.ths.set i _).length = _; rw [List.length_set]; exact hn, by show j + 1 ≤ ((s'.ths.set i { (s'.ths.getD i default) with buf := (s'.ths.getD i default).buf.set j ⟨k, IntKind.i64.wrap (k + 1), IntKind.i64.wrap (IntKind.i64.wrap (k + 1) + 1), IntKind.i64.wrap (IntKind.i64.wrap (IntKind.i64.wrap (k + 1) + 1) + 1)⟩ }).getD i default).buf.length; rw [getD_setT hi']; simp only [List.length_set]; exact hlj, by show 0 ≤ IntKind.i64.wrap (IntKind.i64.wrap (IntKind.i64.wrap (IntKind.i64.wrap (k + 1) + 1) + 1) + 1); rw [w1, w2, w3, w4]; omega, by show IntKind.i64.wrap (IntKind.i64.wrap (IntKind.i64.wrap (IntKind.i64.wrap (k + 1) + 1) + 1) + 1) ≤ 2097153 + 16777216 * (i : Int) + 14 + 2 * 1048576 + 4 * ((j + 1 : Nat) : Int); rw [w1, w2, w3, w4]; omega⟩ (by show ((s'.ths.set i { (s'.ths.getD i default) with buf := (s'.ths.getD i default).buf.set j ⟨k, IntKind.i64.wrap (k + 1), IntKind.i64.wrap (IntKind.i64.wrap (k + 1) + 1), IntKind.i64.wrap (IntKind.i64.wrap (IntKind.i64.wrap (k + 1) + 1) + 1)⟩ }).getD i default).buf.length - (j + 1) < (s'.ths.getD i default).buf.length - j; rw [getD_setT hi']; simp only [List.length_set]; omega) (by rw [hwj]; rfl) (by rw [staA_ths, thA_buf]; first | done | rfl)
  · have d1 := nlt_map (f := entA) (Nat.le_of_not_lt hlj)
    have hj1 : j ≤ 1048576 := by omega
    replace hk1 : k ≤ 2097153 + 16777216 * (i : Int) + 14 + 2 * 1048576 + 4 * 1048576 := by omega
    have dI := lt_map (f := thA) hi'
    have dZ := nonneg i
    refine go ?_
    clear hlj d1 IH3 hj g1 g2 g3 g4 g5 r1 dI dZ hi' hwi hnl
    revert IHC
    revert hk1
    revert hk0
    revert hn
    revert hr'
    revert hj1
    revert s'
    revert k
    revert j
    revert hli
    revert i
    revert fC
    revert s4
    revert k4
    revert j4
    revert s3
    revert k3
    revert j3
    revert s2
    revert k2
    revert s1
    revert k1
    revert j1
    revert s0
    revert k0
    revert j0
    revert hr
    exact hP1.h
end Go.Proofs.Ytpmlbimlndphhaa.A
namespace Go.Proofs.Ytpmlbimlndphhaa.A
open Go Go.Abs
set_option maxRecDepth 100000
set_option maxHeartbeats 16000000 in
noncomputable def MH {n : Nat}{s : Sta} {t : Int}(hs : s.len) (hi : s.i64) : (P1 : Prop) ×' (Hold P1 → (MG (n := n) (t := t) hs hi).1) := by
  apply PSigma.mk
  intro hP1
  intro hr j0 k0 s0 j1 k1 s1 k2 s2 j3 k3 s3 j4 k4 s4 fC i hli j5 k5 s5 hj5 hr' hn hk0 hk1 IHC
  have hnl := hr.2.2.1
  have hi' : i < s5.ths.length := by omega
  have hwi := wrapS (k := i) (by omega)
  have dI := lt_map (f := thA) hi'
  have dZ := nonneg i
  have d1 := dI
  have d2 := dZ
  refine (evLoop_gen (fun e (x : Nat × Int × Sta) => (e.set 5 (.int .i64 (x.1 : Int))).set 1 (.int .i64 x.2.1)) (fun h x => h.set 5 (some ⟨false, false, true, 13, [staA x.2.2]⟩)) (fun _ => some ⟨.bool true, []⟩) (fun x => x.2.2.room ∧ x.2.2.ths.length = s.ths.length ∧ x.1 ≤ (x.2.2.ths.getD i default).work.length ∧ 0 ≤ x.2.1 ∧ x.2.1 ≤ 2097153 + 16777216 * (i : Int) + 14 + 2 * 1048576 + 4 * 1048576 + 4 * (x.1 : Int)) (fun x => (x.2.2.ths.getD i default).work.length - x.1) (0, k5, s5) rfl ⟨hr', hn, Nat.zero_le _, hk0, by show k5 ≤ 2097153 + 16777216 * (i : Int) + 14 + 2 * 1048576 + 4 * 1048576 + 4 * ((0 : Nat) : Int); omega⟩ (by have hrr : (s5 : Sta).room := hr'; have hnn : (s5 : Sta).ths.length = s.ths.length := hn; have := room_at (i := i) hrr (by omega); unfold Th.room at this; show ((s5 : Sta).ths.getD i default).work.length - 0 < 18446744073709551616; omega) ?_).trans rfl
  clear hk1 hk0 hn hr' hi' d1 d2 dI dZ hj5
  rintro ⟨j, k, s'⟩ IH4f ⟨hr', hn, hj, hk0, hk1⟩ IH4
  simp only at hr' hn hj hk0 hk1
  have hi' : i < s'.ths.length := by omega
  have hrt := room_at hr' hi'
  obtain ⟨g1, g2, g3, g4, g5⟩ := hrt
  have r1 := map_get (f := thA) hi'
  by_cases hlj : j < (s'.ths.getD i default).work.length
  · have d1 := lt_map (f := entA) hlj
    have d2 := nonneg j
    have r2 := map_get (f := entA) hlj
    have hwj := wrapS (k := j) (by omega)
    have w1 : IntKind.i64.wrap (k + 1) = k + 1 := by rw [wrapI (by omega) (by omega)]; first | done | omega
    have w2 : IntKind.i64.wrap (k + 1 + 1) = k + 2 := by rw [wrapI (by omega) (by omega)]; first | done | omega
    have w3 : IntKind.i64.wrap (k + 2 + 1) = k + 3 := by rw [wrapI (by omega) (by omega)]; first | done | omega
    have w4 : IntKind.i64.wrap (k + 3 + 1) = k + 4 := by rw [wrapI (by omega) (by omega)]; first | done | omega
    have hL : j < ((s'.ths.getD i default).work.map entA).length := by rw [List.length_map]; exact hlj
    have hM : i < (s'.ths.map thA).length := by rw [List.length_map]; exact hi'
    have d3 : ∀ row, decide ((j : Int) < ((((s'.ths.getD i default).work.map entA).set j row).length : Int)) = true := fun row => by rw [List.length_set]; exact d1
    have x1 := fun {row : List AV} {x y : R} => br_pos (x := x) (y := y) (d3 row)
    have st1 := r1
    have st2 := r2
    refine gx ?_
    clear st1 st2
    try with_reducible rfl
    refine IH4 (j + 1, IntKind.i64.wrap (IntKind.i64.wrap (IntKind.i64.wrap (IntKind.i64.wrap (k + 1) + 1) + 1) + 1), { s' with ths := s'.ths.set i { (s'.ths.getD i default) with work := (s'.ths.getD i default).work.set j ⟨k, IntKind.i64.wrap (k + 1), IntKind.i64.wrap (IntKind.i64.wrap (k + 1) + 1), IntKind.i64.wrap (IntKind.i64.wrap (IntKind.i64.wrap (k + 1) + 1) + 1)⟩ } }) _ _ ⟨room_set hr' (by unfold Th.room; simp only [List.length_set]; exact ⟨g1, g2, g3, g4, g5⟩), by show (s'.ths.set i _).length = _; rw [List.length_set]; exact hn, by show j + 1 ≤ ((s'.ths.set i { (s'.ths.getD i default) with work := (s'.ths.getD i default).work.set j ⟨k, IntKind.i64.wrap (k + 1), IntKind.i64.wrap (IntKind.i64.wrap (k + 1) + 1), IntKind.i64.wrap (IntKind.i64.wrap (IntKind.i64.wrap (k + 1) + 1) + 1)⟩ }).getD i default).work.length; rw [getD_setT hi']; simp only [List.length_set]; exact hlj, by show 0 ≤ IntKind.i64.wrap (IntKind.i64.wrap (IntKind.i64.wrap (IntKind.i64.wrap (k + 1) + 1) + 1) + 1); rw [w1, w2, w3, w4]; omega, by show IntKind.i64.wrap (IntKind.i64.wrap (IntKind.i64.wrap (IntKind.i64.wrap (k + 1) + 1) + 1) + 1) ≤ 2097153 + 16777216 * (i : Int) + 14 + 2 * 1048576 + 4 * 1048576 + 4 * ((j + 1 : Nat) : Int); rw [w1, w2, w3, w4]; omega⟩ (by show ((s'.ths.set i { (s'.ths.getD i default) with work := (s'.ths.getD i default).work.set j ⟨k, IntKind.i64.wrap (k + 1), IntKind.i64.wrap (IntKind.i64.wrap (k + 1) + 1), IntKind.i64.wrap (IntKind.i64.wrap (IntKind.i64.wrap (k + 1) + 1) + 1)⟩ }).getD i default).work.length - (j + 1) < (s'.ths.getD i default).work.length - j; rw [getD_setT hi']; simp only [List.length_set]; omega) (by rw [hwj]; rfl) (by rw [staA_ths, thA_work]; first | done | rfl)
  · have d1 := nlt_map (f := entA) (Nat.le_of_not_lt hlj)
    have hj1 : j ≤ 1048576 := by omega
    replace hk1 : k ≤ 2097153 + 16777216 * (i : Int) + 14 + 2 * 1048576 + 4 * 1048576 + 4 * 1048576 := by omega
    have dI := lt_map (f := thA) hi'
    have dZ := nonneg i
    refine go ?_
    clear hlj d1 IH4 hj g1 g2 g3 g4 g5 r1 dI dZ hi' hwi hnl
    revert IHC
    revert hk1
    revert hk0
    revert hn
    revert hr'
    revert hj1
    revert s'
    revert k
    revert j
    revert hli
    revert i
    revert fC
    revert s5
    revert k5
    revert j5
    revert s4
    revert k4
    revert j4
    revert s3
    revert k3
    revert j3
    revert s2
    revert k2
    revert s1
    revert k1
    revert j1
    revert s0
    revert k0
    revert j0
    revert hr
    exact hP1.h
end Go.Proofs.Ytpmlbimlndphhaa.A
namespace Go.Proofs.Ytpmlbimlndphhaa.A
open Go Go.Abs
set_option maxRecDepth 100000
set_option maxHeartbeats 16000000 in
theorem MI {n : Nat} {s : Sta} {t : Int}(hs : s.len) (hi : s.i64) : (MH (n := n) (t := t) hs hi).1 := by
  intro hr j0 k0 s0 j1 k1 s1 k2 s2 j3 k3 s3 j4 k4 s4 j5 k5 s5 fC i hli j6 k6 s6 hj6 hr' hn hk0 hk1 IHC
  have hnl := hr.2.2.1
  have hi' : i < s6.ths.length := by omega
  have hwi := wrapS (k := i) (by omega)
  have dI := lt_map (f := thA) hi'
  have dZ := nonneg i
  have d1 := dI
  have d2 := dZ
  refine (evLoop_gen (fun e (x : Nat × Int × Sta) => (e.set 5 (.int .i64 (x.1 : Int))).set 1 (.int .i64 x.2.1)) (fun h x => h.set 5 (some ⟨false, false, true, 13, [staA x.2.2]⟩)) (fun _ => some ⟨.bool true, []⟩) (fun x => x.2.2.room ∧ x.2.2.ths.length = s.ths.length ∧ x.1 ≤ (x.2.2.ths.getD i default).limbo.length ∧ 0 ≤ x.2.1 ∧ x.2.1 ≤ 2097153 + 16777216 * (i : Int) + 14 + 2 * 1048576 + 8 * 1048576 + 1 * (x.1 : Int)) (fun x => (x.2.2.ths.getD i default).limbo.length - x.1) (0, k6, s6) rfl ⟨hr', hn, Nat.zero_le _, hk0, by show k6 ≤ 2097153 + 16777216 * (i : Int) + 14 + 2 * 1048576 + 8 * 1048576 + 1 * ((0 : Nat) : Int); omega⟩ (by have hrr : (s6 : Sta).room := hr'; have hnn : (s6 : Sta).ths.length = s.ths.length := hn; have := room_at (i := i) hrr (by omega); unfold Th.room at this; show ((s6 : Sta).ths.getD i default).limbo.length - 0 < 18446744073709551616; omega) ?_).trans rfl
  clear hk1 hk0 hn hr' hi' d1 d2 dI dZ hj6
  rintro ⟨j, k, s'⟩ IH5f ⟨hr', hn, hj, hk0, hk1⟩ IH5
  simp only at hr' hn hj hk0 hk1
  have hi' : i < s'.ths.length := by omega
  have hrt := room_at hr' hi'
  obtain ⟨g1, g2, g3, g4, g5⟩ := hrt
  have r1 := map_get (f := thA) hi'
  by_cases hlj : j < (s'.ths.getD i default).limbo.length
  · have d1 := lt_map (f := iA) hlj
    have d2 := nonneg j
    have r2 := map_get (f := iA) hlj
    have hwj := wrapS (k := j) (by omega)
    have w1 : IntKind.i64.wrap (k + 1) = k + 1 := by rw [wrapI (by omega) (by omega)]; first | done | omega
    have hL : j < ((s'.ths.getD i default).limbo.map iA).length := by rw [List.length_map]; exact hlj
    have st1 := r1
    have st2 := r2
    refine go ?_
    clear st1 st2
    try with_reducible rfl
    refine IH5 (j + 1, IntKind.i64.wrap (k + 1), { s' with ths := s'.ths.set i { (s'.ths.getD i default) with limbo := (s'.ths.getD i default).limbo.set j k } }) _ _ ⟨room_set hr' (by unfold Th.room; simp only [List.length_set]; exact ⟨g1, g2, g3, g4, g5⟩), by show (s'.ths.set i _).length = _; rw [List.length_set]; exact hn, by show j + 1 ≤ ((s'.ths.set i { (s'.ths.getD i default) with limbo := (s'.ths.getD i default).limbo.set j k }).getD i default).limbo.length; rw [getD_setT hi']; simp only [List.length_set]; exact hlj, by show 0 ≤ IntKind.i64.wrap (k + 1); rw [w1]; omega, by show IntKind.i64.wrap (k + 1) ≤ 2097153 + 16777216 * (i : Int) + 14 + 2 * 1048576 + 8 * 1048576 + 1 * ((j + 1 : Nat) : Int); rw [w1]; omega⟩ (by show ((s'.ths.set i { (s'.ths.getD i default) with limbo := (s'.ths.getD i default).limbo.set j k }).getD i default).limbo.length - (j + 1) < (s'.ths.getD i default).limbo.length - j; rw [getD_setT hi']; simp only [List.length_set]; omega) (by rw [hwj]; rfl) (by rw [staA_ths, thA_limbo]; first | done | rfl)
  · have d1 := nlt_map (f := iA) (Nat.le_of_not_lt hlj)
    have hj1 : j ≤ 1048576 := by omega
    replace hk1 : k ≤ 2097153 + 16777216 * (i : Int) + 14 + 2 * 1048576 + 8 * 1048576 + 1 * 1048576 := by omega
    have dI := lt_map (f := thA) hi'
    have dZ := nonneg i
    refine go ?_
    refine IHC (i + 1, k, s') _ _ ⟨hr', hn, by show i + 1 ≤ s.ths.length; omega, hk0, by show k ≤ 2097153 + 16777216 * ((i + 1 : Nat) : Int); omega⟩ (by show s.ths.length - (i + 1) < s.ths.length - i; omega) (by rw [hwi]; rfl) rfl
end Go.Proofs.Ytpmlbimlndphhaa.A
