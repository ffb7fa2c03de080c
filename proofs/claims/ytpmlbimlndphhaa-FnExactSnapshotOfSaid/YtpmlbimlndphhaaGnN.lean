/- What the functions of the states answer, part 13: no condition. -/
import Derived.Test.YtpmlbimlndphhaaGnM
set_option linter.unusedVariables false
set_option linter.unusedSimpArgs false
namespace Go.Proofs.Ytpmlbimlndphhaa.A
open Go Go.Abs
set_option maxRecDepth 100000
set_option maxHeartbeats 16000000 in
theorem LJ {n : Nat} {s : Sta}(hs : s.len) (hi : s.i64) : ((LD (n := n) hs hi).2 ⟨(LE (n := n) hs hi).2 ⟨(LF (n := n) hs hi).2 ⟨(LG (n := n) hs hi).2 ⟨(LH (n := n) hs hi).2 ⟨LI (n := n) hs hi⟩⟩⟩⟩⟩).1 := by
  intro hr j0 k0 s0 j1 k1 s1 fC i hli k s' hi1 hr' hn hk0 hk1
  have hnl := hr.2.2.1
  have hsn : (snapV s).length ≤ maxLen := Nat.le_trans (snapV_len hr) (by decide)
  have e3 : (!decide (snapV s = snapV s)) = false := by simp
  have e2 : (!decide (s = s)) = false := by simp
  have d1 := nlt_map (xs := s'.ths) (k := i) (f := thA) (by omega)
  have d2 := nonneg i
  have hk2 : decide (k < 0) = false := decide_eq_false (by omega)
  have fq1 := fun {n : Nat} {ys : List Int} => F_laws_eqIntS (n := n) (ys := ys) hsn
  refine goD ?_
  clear fq1
  try with_reducible rfl
  have hmk : (mkL (snapV s).length).length = (snapV s).length := mkL_len
  have hLm : (snapV s).length ≤ 1048576 := snapV_len hr
  refine (evLoop_run (fun e j => (e.set 5 (.int .i64 (j : Int))).set 1 (.int .i64 (1 + (j : Int)))) (fun h j => h.set 6 (some ⟨false, true, true, 0, [[.lst 1 ((mix (mkL (snapV s).length) (snapV s) j).map iA)]]⟩)) (fun _ => some ⟨.bool true, []⟩) (snapV s).length (by show _ < 18446744073709551616; omega) (by rw [mix_zero]; first | done | rfl) ?_).trans rfl
  intro j fD hj IHD
  by_cases hlj : j < (snapV s).length
  · have d1 : decide ((j : Int) < (((mix (mkL (snapV s).length) (snapV s) j).map iA).length : Int)) = true := lt_map (f := iA) (by rw [mix_len hmk (by omega)]; exact hlj)
    have d2 := nonneg j
    have r2 := mix_get (f := iA) hmk hlj
    have hwj := wrapS (k := j) (by omega)
    have hw2 : IntKind.i64.wrap (1 + (j : Int) + 1) = 1 + ((j + 1 : Nat) : Int) := by rw [wrapI (by omega) (by omega)]; omega
    have st1 := r2
    refine go ?_
    clear st1
    try with_reducible rfl
    exact IHD hlj _ _ (by rw [hwj, hw2]; rfl) (by rw [← mix_set (f := iA) hmk hlj (mkL_get hlj)]; first | done | rfl)
  · have hj2 : j = (snapV s).length := by omega
    have d1 : decide ((j : Int) < (((mix (mkL (snapV s).length) (snapV s) j).map iA).length : Int)) = false := nlt_map (f := iA) (by rw [mix_len hmk (by omega)]; omega)
    rw [mix_end hmk hj2] at d1 ⊢
    subst hj2
    have hq1 : decide (1 + ((snapV s).length : Int) < 0) = false := decide_eq_false (by omega)
    have hq2 : ((1 + ((snapV s).length : Int)) != (1 + ((snapV s).length : Int))) = false := bne_f rfl
    have fq1 := fun {n : Nat} => F_laws_toState (n := n) hr
    have fq2 := fun {n : Nat} => F_impl_LiveSnapshots (n := n) hr hi
    have fq3 := fun {n : Nat} {ys : List Int} => F_laws_eqIntS (n := n) (ys := ys) hsn
    have fq4 := fun {n : Nat} => F_laws_heldIntS (n := n) hLm
    refine goD ?_
    clear fq1 fq2 fq3 fq4
    try with_reducible rfl
end Go.Proofs.Ytpmlbimlndphhaa.A
namespace Go.Proofs.Ytpmlbimlndphhaa.A
open Go Go.Abs
set_option maxRecDepth 100000
theorem F_laws_FnExactLiveSnapshots {n : Nat} {s : Sta}(hs : s.len) (hi : s.i64) : callP cfg (n+15) 5 [.agg (staA s)] = some ⟨.bool true, []⟩ :=
  (LA (n := n) hs hi).2 ⟨(LB (n := n) hs hi).2 ⟨(LC (n := n) hs hi).2 ⟨((LD (n := n) hs hi).2 ⟨(LE (n := n) hs hi).2 ⟨(LF (n := n) hs hi).2 ⟨(LG (n := n) hs hi).2 ⟨(LH (n := n) hs hi).2 ⟨LI (n := n) hs hi⟩⟩⟩⟩⟩).2 ⟨LJ (n := n) hs hi⟩⟩⟩⟩
end Go.Proofs.Ytpmlbimlndphhaa.A
