/- What the functions of the states answer, part 9: no condition. -/
import Derived.Test.YtpmlbimlndphhaaGnI
set_option linter.unusedVariables false
set_option linter.unusedSimpArgs false
namespace Go.Proofs.Ytpmlbimlndphhaa.A
open Go Go.Abs
set_option maxRecDepth 100000
theorem clsV_eq {s : Sta} {k : Nat} (hs : staB s = true) (hk : k < s.c.cap.toNat) : clsV s (k : Int) = clsS s (k : Int) := by
  unfold clsV
  rw [if_pos ⟨hs, by omega, by omega⟩]
theorem cls_len {s : Sta} {f : Nat → Int} : (clsR s f).length = s.c.cap.toNat := by unfold clsR; simp
theorem cls_at {s : Sta} {f : Nat → Int} {k : Nat} (h : k < s.c.cap.toNat) : (clsR s f)[k]? = some (iA (f k)) := by unfold clsR; exact map_getR h
theorem cntN_bd {p : Nat → Bool} : ∀ {l : List Nat}, 0 ≤ cntN p l ∧ cntN p l ≤ l.length
  | [] => by simp [cntN]
  | t :: l => by
    have := cntN_bd (p := p) (l := l)
    rw [cntN, List.length_cons]
    split <;> omega
theorem ccV_bd {s : Sta} {c : Int} (hs : staB s = true) : 0 ≤ ccV s c ∧ ccV s c ≤ s.c.cap := by
  have hb := isCf_bd (sta_facts hs).1
  unfold ccV
  rw [if_pos hs]
  have := cntN_bd (p := fun i => clsV s i == c) (l := List.range s.c.cap.toNat)
  rw [List.length_range] at this
  omega
theorem cnt3 {v : Nat → Int} : ∀ {l : List Nat}, cntN (fun i => (v i != 0) && (v i != 1)) l = (l.length : Int) - cntN (fun i => v i == 0) l - cntN (fun i => v i == 1) l
  | [] => by simp [cntN]
  | t :: l => by
    have := cnt3 (v := v) (l := l)
    simp only [cntN, List.length_cons, this]
    by_cases h0 : v t = 0
    · simp [h0]; omega
    · by_cases h1 : v t = 1
      · simp [h1]; omega
      · simp [h0, h1]; omega
theorem al_eq {s : Sta} (hs : staB s = true) : alV s = s.c.cap - ccV s 0 - ccV s 1 := by
  have hb := isCf_bd (sta_facts hs).1
  unfold alV ccV
  rw [if_pos hs, if_pos hs, if_pos hs, cnt3, List.length_range]
  omega
theorem F_impl_ClassOf {n : Nat} {s : Sta} {i : Int} (hr : s.room) (hi : s.i64) : callP cfg (n+14) 26 [.agg (staA s), .int .i64 i] = some ⟨.int .i64 (clsV s i), []⟩ := by
  rw [callP_succ]
  unfold clsV
  by_cases hs : staB s = true
  · obtain ⟨hc, m1, m2, m3, _⟩ := sta_facts hs
    have hb := isCf_bd hc
    have wk : IntKind.i64.wrap (s.c.cap - 1) = s.c.cap - 1 := wrapI (by omega) (by omega)
    by_cases hx : 0 ≤ i ∧ i ≤ s.c.cap - 1
    · have e0 : inB i 0 (IntKind.i64.wrap (s.c.cap - 1)) = true := by rw [wk]; unfold inB; simp; omega
      have e1 : decide (0 ≤ i) = true := decide_eq_true hx.1
      have e2 : decide (i < ((clsR s fun i => clsS s i).length : Int)) = true := by rw [cls_len]; exact decide_eq_true (by omega)
      have r1 : (clsR s fun i => clsS s i)[i.toNat]? = some (iA (clsS s i)) := by
        rw [cls_at (by omega)]
        have : ((i.toNat : Nat) : Int) = i := by omega
        rw [this]
      rw [if_pos ⟨hs, hx⟩]
      have fq1 := fun {n : Nat} => F_impl_IsState (n := n) hr hi
      have fq2 := fun {n : Nat} {a : Int} {b : Int} {c : Int} => F_impl_in (n := n) (a := a) (b := b) (c := c)
      have fq3 := fun {n : Nat} => F_impl_classes (n := n) hs hr hi
      refine go ?_
      clear fq1 fq2 fq3
      try with_reducible rfl
    · have e0 : inB i 0 (IntKind.i64.wrap (s.c.cap - 1)) = false := by rw [wk]; unfold inB; simp; omega
      rw [if_neg (fun h => hx h.2)]
      have fq1 := fun {n : Nat} => F_impl_IsState (n := n) hr hi
      have fq2 := fun {n : Nat} {a : Int} {b : Int} {c : Int} => F_impl_in (n := n) (a := a) (b := b) (c := c)
      refine go ?_
      clear fq1 fq2
      try with_reducible rfl
  · replace hs : staB s = false := by simpa only [Bool.not_eq_true] using hs
    rw [if_neg (fun h => by rw [hs] at h; simp at h)]
    have fq1 := fun {n : Nat} => F_impl_IsState (n := n) hr hi
    refine go ?_
    clear fq1
    try with_reducible rfl
theorem F_impl_CountClass {n : Nat} {s : Sta} {c : Int} (hr : s.room) (hi : s.i64) : callP cfg (n+14) 28 [.agg (staA s), .int .i64 c] = some ⟨.int .i64 (ccV s c), []⟩ := by
  rw [callP_succ]
  unfold ccV
  by_cases hs : staB s = true
  · rw [if_pos hs]
    have hc := (sta_facts hs).1
    have hb := isCf_bd hc
    have fq1 := fun {n : Nat} => F_impl_IsState (n := n) hr hi
    have fq2 := fun {n : Nat} => F_impl_classes (n := n) hs hr hi
    refine go ?_
    clear fq1 fq2
    refine (evLoop_gen (fun e (x : Nat × Int) => (e.set 13 (.int .i64 (x.1 : Int))).set 5 (.int .i64 x.2)) (fun h _ => h) (fun x => some ⟨.int .i64 (x.2 + cntN (fun i => clsV s i == c) ((List.range s.c.cap.toNat).drop x.1)), []⟩) (fun x => x.1 ≤ s.c.cap.toNat ∧ 0 ≤ x.2 ∧ x.2 ≤ x.1) (fun x => s.c.cap.toNat - x.1) (0, 0) rfl ⟨Nat.zero_le _, by decide, by decide⟩ (by show _ - _ < 18446744073709551616; omega) ?_).trans (okI (Int.zero_add _))
    rintro ⟨k, m⟩ f ⟨hk, h0, h1⟩ IH
    simp only at hk h0 h1 ⊢
    by_cases hlt : k < s.c.cap.toNat
    · have e1 : decide ((k : Int) < ((clsR s fun i => clsS s i).length : Int)) = true := by rw [cls_len]; exact decide_eq_true (by omega)
      have e2 := nonneg k
      have r1 : (clsR s fun i => clsS s i)[k]? = some (iA (clsS s k)) := cls_at hlt
      have hw := wrapS (k := k) (by omega)
      have hwm : IntKind.i64.wrap (m + 1) = m + 1 := wrapI (by omega) (by omega)
      rw [range_drop hlt, cntN, clsV_eq hs hlt]
      by_cases v : (clsS s k == c) = true
      · rw [if_pos v]
        refine go ?_
        try with_reducible rfl
        exact ((IH (k + 1, m + 1) _ _ ⟨hlt, by show 0 ≤ m + 1; omega, by show m + 1 ≤ ((k + 1 : Nat) : Int); omega⟩ (by show _ - _ < _ - _; omega) (by rw [hw, hwm]; rfl) rfl).trans (okI (Int.add_assoc m 1 _)))
      · rw [if_neg v]
        replace v : (clsS s k == c) = false := by simpa only [Bool.not_eq_true] using v
        refine go ?_
        try with_reducible rfl
        exact ((IH (k + 1, m) _ _ ⟨hlt, h0, by show m ≤ ((k + 1 : Nat) : Int); omega⟩ (by show _ - _ < _ - _; omega) (by rw [hw]; rfl) rfl).trans (okI (congrArg (m + ·) (Int.zero_add _)).symm))
    · have e1 : decide ((k : Int) < ((clsR s fun i => clsS s i).length : Int)) = false := by rw [cls_len]; exact decide_eq_false (by omega)
      rw [List.drop_eq_nil_of_le (by rw [List.length_range]; omega)]
      refine go ?_
      try with_reducible rfl
      exact okI (Int.add_zero m).symm
  · replace hs : staB s = false := by simpa only [Bool.not_eq_true] using hs
    rw [if_neg (by rw [hs]; simp)]
    have fq1 := fun {n : Nat} => F_impl_IsState (n := n) hr hi
    refine go ?_
    clear fq1
    try with_reducible rfl
theorem F_impl_IsConserved {n : Nat} {s : Sta} (hr : s.room) (hi : s.i64) : callP cfg (n+15) 30 [.agg (staA s)] = some ⟨.bool (staB s && (ccV s 6 == 0)), []⟩ := by
  rw [callP_succ]
  by_cases hs : staB s = true
  · rw [hs, Bool.true_and]
    have fq1 := fun {n : Nat} => F_impl_IsState (n := n) hr hi
    have fq2 := fun {n : Nat} {c : Int} => F_impl_CountClass (n := n) (c := c) hr hi
    refine go ?_
    clear fq1 fq2
    try with_reducible rfl
  · replace hs : staB s = false := by simpa only [Bool.not_eq_true] using hs
    rw [hs]
    have fq1 := fun {n : Nat} => F_impl_IsState (n := n) hr hi
    refine go ?_
    clear fq1
    try with_reducible rfl
    try rfl
theorem F_impl_Allocated {n : Nat} {s : Sta} (hr : s.room) (hi : s.i64) : callP cfg (n+15) 34 [.agg (staA s)] = some ⟨.int .i64 (alV s), []⟩ := by
  rw [callP_succ]
  by_cases hs : staB s = true
  · have hb := isCf_bd (sta_facts hs).1
    have b0 := ccV_bd (c := 0) hs
    have b1 := ccV_bd (c := 1) hs
    have w1 : IntKind.i64.wrap (s.c.cap - ccV s 0) = s.c.cap - ccV s 0 := wrapI (by omega) (by omega)
    have w2 : IntKind.i64.wrap (s.c.cap - ccV s 0 - ccV s 1) = s.c.cap - ccV s 0 - ccV s 1 := wrapI (by omega) (by omega)
    rw [al_eq hs]
    have fq1 := fun {n : Nat} => F_impl_IsState (n := n) hr hi
    have fq2 := fun {n : Nat} {c : Int} => F_impl_CountClass (n := n) (c := c) hr hi
    refine go ?_
    clear fq1 fq2
    try with_reducible rfl
    rw [w1, w2]
  · have ha : alV s = 0 := by unfold alV; rw [if_neg hs]
    replace hs : staB s = false := by simpa only [Bool.not_eq_true] using hs
    rw [ha]
    have fq1 := fun {n : Nat} => F_impl_IsState (n := n) hr hi
    refine go ?_
    clear fq1
    try with_reducible rfl
set_option maxHeartbeats 4000000 in
theorem F_laws_FnExactClassOf {n : Nat} {s : Sta} {i : Int} (hs : s.len) (hi : s.i64) : callP cfg (n+15) 6 [.agg (staA s), .int .i64 i] = some ⟨.bool true, []⟩ := by
  rw [callP_succ]
  by_cases hb : szSta s 1048576 < 0
  · have e0 : decide (szSta s 1048576 < 0) = true := by simpa using hb
    have fq1 := fun {n : Nat} => F_laws_szState (n := n) (b := 1048576) hs (by decide) (by decide)
    refine go ?_
    clear fq1
    try with_reducible rfl
  · have e0 : decide (szSta s 1048576 < 0) = false := by simpa using hb
    have hr := szSta_room (s := s) (by omega)
    have e2 : (!decide (s = s)) = false := by simp
    have e3 : ((clsV s i) != (clsV s i)) = false := bne_f rfl
    have fq1 := fun {n : Nat} => F_laws_szState (n := n) (b := 1048576) hs (by decide) (by decide)
    have fq2 := fun {n : Nat} => F_laws_toState (n := n) hr
    have fq3 := fun {n : Nat} {b : Sta} => F_laws_eqState (n := n) (b := b) hs
    have fq4 := fun {n : Nat} {i : Int} => F_spec_ClassOf (n := n) (i := i) hr hi
    have fq5 := fun {n : Nat} {i : Int} => F_impl_ClassOf (n := n) (i := i) hr hi
    refine goD ?_
    clear fq1 fq2 fq3 fq4 fq5
    try with_reducible rfl
set_option maxHeartbeats 4000000 in
theorem F_laws_FnExactCountClass {n : Nat} {s : Sta} {c : Int} (hs : s.len) (hi : s.i64) : callP cfg (n+15) 7 [.agg (staA s), .int .i64 c] = some ⟨.bool true, []⟩ := by
  rw [callP_succ]
  by_cases hb : szSta s 1048576 < 0
  · have e0 : decide (szSta s 1048576 < 0) = true := by simpa using hb
    have fq1 := fun {n : Nat} => F_laws_szState (n := n) (b := 1048576) hs (by decide) (by decide)
    refine go ?_
    clear fq1
    try with_reducible rfl
  · have e0 : decide (szSta s 1048576 < 0) = false := by simpa using hb
    have hr := szSta_room (s := s) (by omega)
    have e2 : (!decide (s = s)) = false := by simp
    have e3 : ((ccV s c) != (ccV s c)) = false := bne_f rfl
    have fq1 := fun {n : Nat} => F_laws_szState (n := n) (b := 1048576) hs (by decide) (by decide)
    have fq2 := fun {n : Nat} => F_laws_toState (n := n) hr
    have fq3 := fun {n : Nat} {b : Sta} => F_laws_eqState (n := n) (b := b) hs
    have fq4 := fun {n : Nat} {c : Int} => F_spec_CountClass (n := n) (c := c) hr hi
    have fq5 := fun {n : Nat} {c : Int} => F_impl_CountClass (n := n) (c := c) hr hi
    refine goD ?_
    clear fq1 fq2 fq3 fq4 fq5
    try with_reducible rfl
set_option maxHeartbeats 4000000 in
theorem F_laws_FnExactIsConserved {n : Nat} {s : Sta} (hs : s.len) (hi : s.i64) : callP cfg (n+16) 8 [.agg (staA s)] = some ⟨.bool true, []⟩ := by
  rw [callP_succ]
  by_cases hb : szSta s 1048576 < 0
  · have e0 : decide (szSta s 1048576 < 0) = true := by simpa using hb
    have fq1 := fun {n : Nat} => F_laws_szState (n := n) (b := 1048576) hs (by decide) (by decide)
    refine go ?_
    clear fq1
    try with_reducible rfl
  · have e0 : decide (szSta s 1048576 < 0) = false := by simpa using hb
    have hr := szSta_room (s := s) (by omega)
    have e2 : (!decide (s = s)) = false := by simp
    have e3 : (!((staB s && (ccV s 6 == 0)) == (staB s && (ccV s 6 == 0)))) = false := by simp
    have fq1 := fun {n : Nat} => F_laws_szState (n := n) (b := 1048576) hs (by decide) (by decide)
    have fq2 := fun {n : Nat} => F_laws_toState (n := n) hr
    have fq3 := fun {n : Nat} {b : Sta} => F_laws_eqState (n := n) (b := b) hs
    have fq4 := fun {n : Nat} => F_spec_IsConserved (n := n) hr hi
    have fq5 := fun {n : Nat} => F_impl_IsConserved (n := n) hr hi
    refine goD ?_
    clear fq1 fq2 fq3 fq4 fq5
    try with_reducible rfl
set_option maxHeartbeats 4000000 in
theorem F_laws_FnExactAllocated {n : Nat} {s : Sta} (hs : s.len) (hi : s.i64) : callP cfg (n+16) 10 [.agg (staA s)] = some ⟨.bool true, []⟩ := by
  rw [callP_succ]
  by_cases hb : szSta s 1048576 < 0
  · have e0 : decide (szSta s 1048576 < 0) = true := by simpa using hb
    have fq1 := fun {n : Nat} => F_laws_szState (n := n) (b := 1048576) hs (by decide) (by decide)
    refine go ?_
    clear fq1
    try with_reducible rfl
  · have e0 : decide (szSta s 1048576 < 0) = false := by simpa using hb
    have hr := szSta_room (s := s) (by omega)
    have e2 : (!decide (s = s)) = false := by simp
    have e3 : ((alV s) != (alV s)) = false := bne_f rfl
    have fq1 := fun {n : Nat} => F_laws_szState (n := n) (b := 1048576) hs (by decide) (by decide)
    have fq2 := fun {n : Nat} => F_laws_toState (n := n) hr
    have fq3 := fun {n : Nat} {b : Sta} => F_laws_eqState (n := n) (b := b) hs
    have fq4 := fun {n : Nat} => F_spec_Allocated (n := n) hr hi
    have fq5 := fun {n : Nat} => F_impl_Allocated (n := n) hr hi
    refine goD ?_
    clear fq1 fq2 fq3 fq4 fq5
    try with_reducible rfl
end Go.Proofs.Ytpmlbimlndphhaa.A
