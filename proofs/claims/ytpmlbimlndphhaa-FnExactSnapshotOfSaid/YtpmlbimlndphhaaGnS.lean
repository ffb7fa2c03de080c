/- What the functions of the states answer, part 18: no condition. -/
import Derived.Test.YtpmlbimlndphhaaGnR
set_option linter.unusedVariables false
set_option linter.unusedSimpArgs false
namespace Go.Proofs.Ytpmlbimlndphhaa.A
open Go Go.Abs
set_option maxRecDepth 100000
set_option maxHeartbeats 16000000 in
theorem MJ {n : Nat} {s : Sta} {t : Int}(hs : s.len) (hi : s.i64) : ((MD (n := n) (t := t) hs hi).2 ⟨(ME (n := n) (t := t) hs hi).2 ⟨(MF (n := n) (t := t) hs hi).2 ⟨(MG (n := n) (t := t) hs hi).2 ⟨(MH (n := n) (t := t) hs hi).2 ⟨MI (n := n) (t := t) hs hi⟩⟩⟩⟩⟩).1 := by
  intro hr j0 k0 s0 j1 k1 s1 fC i hli k s' hi1 hr' hn hk0 hk1
  have hnl := hr.2.2.1
  have hsn : (snOf s t).length ≤ maxLen := Nat.le_trans (snOf_len hr) (by decide)
  have e3 : (!decide (snOf s t = snOf s t)) = false := by simp
  have e2 : (!decide (s = s)) = false := by simp
  have d1 := nlt_map (xs := s'.ths) (k := i) (f := thA) (by omega)
  have d2 := nonneg i
  have hk2 : decide (k < 0) = false := decide_eq_false (by omega)
  have fq1 := fun {n : Nat} {ys : List Int} => F_laws_eqIntS (n := n) (ys := ys) hsn
  refine goD ?_
  clear fq1
  try with_reducible rfl
  have hmk : (mkL (snOf s t).length).length = (snOf s t).length := mkL_len
  have hLm : (snOf s t).length ≤ 1048576 := snOf_len hr
  refine (evLoop_run (fun e j => (e.set 5 (.int .i64 (j : Int))).set 1 (.int .i64 (1 + (j : Int)))) (fun h j => h.set 6 (some ⟨false, true, true, 0, [[.lst 1 ((mix (mkL (snOf s t).length) (snOf s t) j).map iA)]]⟩)) (fun _ => some ⟨.bool true, []⟩) (snOf s t).length (by show _ < 18446744073709551616; omega) (by rw [mix_zero]; first | done | rfl) ?_).trans rfl
  intro j fD hj IHD
  by_cases hlj : j < (snOf s t).length
  · have d1 : decide ((j : Int) < (((mix (mkL (snOf s t).length) (snOf s t) j).map iA).length : Int)) = true := lt_map (f := iA) (by rw [mix_len hmk (by omega)]; exact hlj)
    have d2 := nonneg j
    have r2 := mix_get (f := iA) hmk hlj
    have hwj := wrapS (k := j) (by omega)
    have hw2 : IntKind.i64.wrap (1 + (j : Int) + 1) = 1 + ((j + 1 : Nat) : Int) := by rw [wrapI (by omega) (by omega)]; omega
    have st1 := r2
    refine go ?_
    clear st1
    try with_reducible rfl
    exact IHD hlj _ _ (by rw [hwj, hw2]; rfl) (by rw [← mix_set (f := iA) hmk hlj (mkL_get hlj)]; first | done | rfl)
  · have hj2 : j = (snOf s t).length := by omega
    have d1 : decide ((j : Int) < (((mix (mkL (snOf s t).length) (snOf s t) j).map iA).length : Int)) = false := nlt_map (f := iA) (by rw [mix_len hmk (by omega)]; omega)
    rw [mix_end hmk hj2] at d1 ⊢
    subst hj2
    have hq1 : decide (1 + ((snOf s t).length : Int) < 0) = false := decide_eq_false (by omega)
    have hq2 : ((1 + ((snOf s t).length : Int)) != (1 + ((snOf s t).length : Int))) = false := bne_f rfl
    have fq1 := fun {n : Nat} => F_laws_toState (n := n) hr
    have fq2 := fun {n : Nat} {t : Int} => F_impl_SnapshotOf (n := n) (t := t) hr hi
    have fq3 := fun {n : Nat} {ys : List Int} => F_laws_eqIntS (n := n) (ys := ys) hsn
    have fq4 := fun {n : Nat} => F_laws_heldIntS (n := n) hLm
    refine goD ?_
    clear fq1 fq2 fq3 fq4
    try with_reducible rfl
end Go.Proofs.Ytpmlbimlndphhaa.A
namespace Go.Proofs.Ytpmlbimlndphhaa.A
open Go Go.Abs
set_option maxRecDepth 100000
theorem F_laws_FnExactSnapshotOf {n : Nat} {s : Sta} {t : Int}(hs : s.len) (hi : s.i64) : callP cfg (n+16) 9 [.agg (staA s), .int .i64 t] = some ⟨.bool true, []⟩ :=
  (MA (n := n) (t := t) hs hi).2 ⟨(MB (n := n) (t := t) hs hi).2 ⟨(MC (n := n) (t := t) hs hi).2 ⟨((MD (n := n) (t := t) hs hi).2 ⟨(ME (n := n) (t := t) hs hi).2 ⟨(MF (n := n) (t := t) hs hi).2 ⟨(MG (n := n) (t := t) hs hi).2 ⟨(MH (n := n) (t := t) hs hi).2 ⟨MI (n := n) (t := t) hs hi⟩⟩⟩⟩⟩).2 ⟨MJ (n := n) (t := t) hs hi⟩⟩⟩⟩
end Go.Proofs.Ytpmlbimlndphhaa.A
