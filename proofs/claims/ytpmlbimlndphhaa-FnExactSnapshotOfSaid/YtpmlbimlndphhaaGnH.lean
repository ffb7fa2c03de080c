/- What the functions of the states answer, part 7: no condition. -/
import Derived.Test.YtpmlbimlndphhaaGnG
set_option linter.unusedVariables false
set_option linter.unusedSimpArgs false
namespace Go.Proofs.Ytpmlbimlndphhaa.A
open Go Go.Abs
set_option maxRecDepth 100000
abbrev unrB (t : Th) : Bool := inB t.pc 43 45 && (t.curr != 0)
def cntT (p : Th → Bool) : List Th → Int
  | [] => 0
  | t :: l => (if p t = true then 1 else 0) + cntT p l
noncomputable def unrV (s : Sta) : Int := if staB s = true then cntT unrB s.ths else 0
set_option maxHeartbeats 4000000 in
theorem F_impl_Unretired {n : Nat} {s : Sta} (hr : s.room) (hi : s.i64) : callP cfg (n+14) 15 [.agg (staA s)] = some ⟨.int .i64 (unrV s), []⟩ := by
  rw [callP_succ]
  have hl := hr.2.2.1
  unfold unrV
  by_cases hs : staB s = true
  · rw [if_pos hs]
    have fq1 := fun {n : Nat} => F_impl_IsState (n := n) hr hi
    refine go ?_
    clear fq1
    refine (evLoop_gen (fun e (x : Nat × Int) => (e.set 12 (.int .i64 (x.1 : Int))).set 3 (.int .i64 x.2)) (fun h _ => h) (fun x => some ⟨.int .i64 (x.2 + cntT unrB (s.ths.drop x.1)), []⟩) (fun x => x.1 ≤ s.ths.length ∧ 0 ≤ x.2 ∧ x.2 ≤ x.1) (fun x => s.ths.length - x.1) (0, 0) rfl ⟨Nat.zero_le _, by decide, by decide⟩ (by show _ - _ < 18446744073709551616; omega) ?_).trans (okI (Int.zero_add _))
    rintro ⟨k, m⟩ f ⟨hk, h0, h1⟩ IH
    simp only at hk h0 h1 ⊢
    by_cases hlt : k < s.ths.length
    · have e1 := lt_map (f := thA) hlt
      have e2 := nonneg k
      have r1 := map_get (f := thA) hlt
      have hw := wrapS (k := k) (by omega)
      have hwm : IntKind.i64.wrap (m + 1) = m + 1 := wrapI (by omega) (by omega)
      rw [drop_cons hlt, cntT]
      by_cases v1 : inB (s.ths.getD k default).pc 43 45 = true
      · by_cases v2 : ((s.ths.getD k default).curr != 0) = true
        · have hv : unrB (s.ths.getD k default) = true := by unfold unrB; rw [v1, v2]; rfl
          rw [if_pos hv]
          have fq1 := fun {n : Nat} {a : Int} {b : Int} {c : Int} => F_impl_in (n := n) (a := a) (b := b) (c := c)
          refine go ?_
          clear fq1
          try with_reducible rfl
          refine (IH (k + 1, m + 1) _ _ ⟨hlt, by omega, by show m + 1 ≤ ((k + 1 : Nat) : Int); omega⟩ (by show _ - _ < _ - _; omega) (by rw [hw, hwm]; rfl) rfl).trans ?_
          refine okI ?_
          exact Int.add_assoc m 1 _
        · replace v2 : ((s.ths.getD k default).curr != 0) = false := by simpa only [Bool.not_eq_true] using v2
          have hv : ¬ unrB (s.ths.getD k default) = true := by unfold unrB; rw [v1, v2]; simp
          rw [if_neg hv]
          have fq1 := fun {n : Nat} {a : Int} {b : Int} {c : Int} => F_impl_in (n := n) (a := a) (b := b) (c := c)
          refine go ?_
          clear fq1
          try with_reducible rfl
          refine (IH (k + 1, m) _ _ ⟨hlt, h0, by show m ≤ ((k + 1 : Nat) : Int); omega⟩ (by show _ - _ < _ - _; omega) (by rw [hw]; rfl) rfl).trans ?_
          refine okI ?_
          exact (congrArg (m + ·) (Int.zero_add _)).symm
      · replace v1 : inB (s.ths.getD k default).pc 43 45 = false := by simpa only [Bool.not_eq_true] using v1
        have hv : ¬ unrB (s.ths.getD k default) = true := by unfold unrB; rw [v1]; simp
        rw [if_neg hv]
        have fq1 := fun {n : Nat} {a : Int} {b : Int} {c : Int} => F_impl_in (n := n) (a := a) (b := b) (c := c)
        refine go ?_
        clear fq1
        try with_reducible rfl
        refine (IH (k + 1, m) _ _ ⟨hlt, h0, by show m ≤ ((k + 1 : Nat) : Int); omega⟩ (by show _ - _ < _ - _; omega) (by rw [hw]; rfl) rfl).trans ?_
        refine okI ?_
        exact (congrArg (m + ·) (Int.zero_add _)).symm
    · have e1 := nlt_map (f := thA) (Nat.le_of_not_lt hlt)
      rw [List.drop_eq_nil_of_le (by omega)]
      refine go ?_
      try with_reducible rfl
      refine okI ?_
      show m = m + 0
      omega
  · replace hs : staB s = false := by simpa only [Bool.not_eq_true] using hs
    rw [if_neg (by rw [hs]; simp)]
    have fq1 := fun {n : Nat} => F_impl_IsState (n := n) hr hi
    refine go ?_
    clear fq1
    try with_reducible rfl
set_option maxHeartbeats 4000000 in
theorem F_spec_Unretired {n : Nat} {s : Sta} (hr : s.room) (hi : s.i64) : callP cfg (n+7) 13 [.agg (staA s)] = some ⟨.int .i64 (unrV s), []⟩ := by
  rw [callP_succ]
  have hl := hr.2.2.1
  unfold unrV
  by_cases hs : staB s = true
  · rw [if_pos hs]
    refine go ?_
    refine (evLoop_gen (fun e (x : Nat × Int) => (e.set 4 (.int .i64 (x.1 : Int))).set 3 (.int .i64 x.2)) (fun h _ => h) (fun x => some ⟨.int .i64 (x.2 + cntT unrB (s.ths.drop x.1)), []⟩) (fun x => x.1 ≤ s.ths.length ∧ 0 ≤ x.2 ∧ x.2 ≤ x.1) (fun x => s.ths.length - x.1) (0, 0) rfl ⟨Nat.zero_le _, by decide, by decide⟩ (by show _ - _ < 18446744073709551616; omega) ?_).trans (okI (Int.zero_add _))
    rintro ⟨k, m⟩ f ⟨hk, h0, h1⟩ IH
    simp only at hk h0 h1 ⊢
    by_cases hlt : k < s.ths.length
    · have e1 := lt_map (f := thA) hlt
      have e2 := nonneg k
      have r1 := map_get (f := thA) hlt
      have hw := wrapS (k := k) (by omega)
      have hwm : IntKind.i64.wrap (m + 1) = m + 1 := wrapI (by omega) (by omega)
      rw [drop_cons hlt, cntT]
      by_cases v1 : inB (s.ths.getD k default).pc 43 45 = true
      · by_cases v2 : ((s.ths.getD k default).curr != 0) = true
        · have hv : unrB (s.ths.getD k default) = true := by unfold unrB; rw [v1, v2]; rfl
          rw [if_pos hv]
          have fq1 := fun {n : Nat} {a : Int} {b : Int} {c : Int} => F_spec_l1In (n := n) (a := a) (b := b) (c := c)
          have fq2 := fun {n : Nat} => F_spec_IsState (n := n) hr hi
          refine go ?_
          clear fq1 fq2
          try with_reducible rfl
          refine (IH (k + 1, m + 1) _ _ ⟨hlt, by omega, by show m + 1 ≤ ((k + 1 : Nat) : Int); omega⟩ (by show _ - _ < _ - _; omega) (by rw [hw, hwm]; rfl) rfl).trans ?_
          refine okI ?_
          exact Int.add_assoc m 1 _
        · replace v2 : ((s.ths.getD k default).curr != 0) = false := by simpa only [Bool.not_eq_true] using v2
          have hv : ¬ unrB (s.ths.getD k default) = true := by unfold unrB; rw [v1, v2]; simp
          rw [if_neg hv]
          have fq1 := fun {n : Nat} {a : Int} {b : Int} {c : Int} => F_spec_l1In (n := n) (a := a) (b := b) (c := c)
          have fq2 := fun {n : Nat} => F_spec_IsState (n := n) hr hi
          refine go ?_
          clear fq1 fq2
          try with_reducible rfl
          refine (IH (k + 1, m) _ _ ⟨hlt, h0, by show m ≤ ((k + 1 : Nat) : Int); omega⟩ (by show _ - _ < _ - _; omega) (by rw [hw]; rfl) rfl).trans ?_
          refine okI ?_
          exact (congrArg (m + ·) (Int.zero_add _)).symm
      · replace v1 : inB (s.ths.getD k default).pc 43 45 = false := by simpa only [Bool.not_eq_true] using v1
        have hv : ¬ unrB (s.ths.getD k default) = true := by unfold unrB; rw [v1]; simp
        rw [if_neg hv]
        have fq1 := fun {n : Nat} {a : Int} {b : Int} {c : Int} => F_spec_l1In (n := n) (a := a) (b := b) (c := c)
        have fq2 := fun {n : Nat} => F_spec_IsState (n := n) hr hi
        refine go ?_
        clear fq1 fq2
        try with_reducible rfl
        refine (IH (k + 1, m) _ _ ⟨hlt, h0, by show m ≤ ((k + 1 : Nat) : Int); omega⟩ (by show _ - _ < _ - _; omega) (by rw [hw]; rfl) rfl).trans ?_
        refine okI ?_
        exact (congrArg (m + ·) (Int.zero_add _)).symm
    · have e1 := nlt_map (f := thA) (Nat.le_of_not_lt hlt)
      rw [List.drop_eq_nil_of_le (by omega)]
      refine go ?_
      try with_reducible rfl
      refine okI ?_
      show m = m + 0
      omega
  · replace hs : staB s = false := by simpa only [Bool.not_eq_true] using hs
    rw [if_neg (by rw [hs]; simp)]
    refine go ?_
    refine (evLoop_run (fun e k => (e.set 4 (.int .i64 (k : Int))).set 3 (.int .i64 0)) (fun h _ => h) (fun _ => some ⟨.int .i64 0, []⟩) 0 (by decide) rfl ?_).trans rfl
    intro k f hk IH
    obtain rfl : k = 0 := by omega
    clear IH hk
    by_cases hlt : 0 < s.ths.length
    · have e1 := lt_map (f := thA) hlt
      have fq1 := fun {n : Nat} => F_spec_IsState (n := n) hr hi
      refine go ?_
      clear fq1
      try with_reducible rfl
    · have e1 := nlt_map (f := thA) (Nat.le_of_not_lt hlt)
      refine go ?_
      try with_reducible rfl
set_option maxHeartbeats 4000000 in
theorem F_laws_FnExactUnretired {n : Nat} {s : Sta} (hs : s.len) (hi : s.i64) : callP cfg (n+15) 3 [.agg (staA s)] = some ⟨.bool true, []⟩ := by
  rw [callP_succ]
  by_cases hb : szSta s 1048576 < 0
  · have e0 : decide (szSta s 1048576 < 0) = true := by simpa using hb
    have fq1 := fun {n : Nat} => F_laws_szState (n := n) (b := 1048576) hs (by decide) (by decide)
    refine go ?_
    clear fq1
    try with_reducible rfl
  · have e0 : decide (szSta s 1048576 < 0) = false := by simpa using hb
    have hr := szSta_room (s := s) (by omega)
    have e2 : (!decide (s = s)) = false := by simp
    have e3 : ((unrV s) != (unrV s)) = false := bne_f rfl
    have fq1 := fun {n : Nat} => F_laws_szState (n := n) (b := 1048576) hs (by decide) (by decide)
    have fq2 := fun {n : Nat} => F_laws_toState (n := n) hr
    have fq3 := fun {n : Nat} {b : Sta} => F_laws_eqState (n := n) (b := b) hs
    have fq4 := fun {n : Nat} => F_spec_Unretired (n := n) hr hi
    have fq5 := fun {n : Nat} => F_impl_Unretired (n := n) hr hi
    refine goD ?_
    clear fq1 fq2 fq3 fq4 fq5
    try with_reducible rfl
end Go.Proofs.Ytpmlbimlndphhaa.A
namespace Go.Proofs.Ytpmlbimlndphhaa.A
open Go Go.Abs
set_option maxRecDepth 100000
abbrev prvB (t : Th) : Bool := inB t.pc 32 42 && (t.node != 0)
def lenT (t : Th) : Int := (t.buf.length : Int) + t.work.length + t.limbo.length
def spB (t : Th) : Int := lenT t + (if prvB t = true then 1 else 0)
def sumT : List Th → Int
  | [] => 0
  | t :: l => spB t + sumT l
noncomputable def spaceV (s : Sta) : Int := if staB s = true then s.c.keys + unrV s + sumT s.ths else 0
theorem cntT_le {p : Th → Bool} : ∀ {l : List Th}, 0 ≤ cntT p l ∧ cntT p l ≤ l.length
  | [] => by simp [cntT]
  | t :: l => by
    have := cntT_le (p := p) (l := l)
    rw [cntT, List.length_cons]
    split <;> omega
theorem unrV_le {s : Sta} : 0 ≤ unrV s ∧ unrV s ≤ s.ths.length := by
  unfold unrV
  split
  · exact cntT_le
  · omega
theorem F_spec_l22Private {n : Nat} {t : Th} : callP cfg (n+2) 48 [.agg (thA t)] = some ⟨.bool (prvB t), []⟩ := by
  rw [callP_succ]
  have fq1 := fun {n : Nat} {a : Int} {b : Int} {c : Int} => F_spec_l1In (n := n) (a := a) (b := b) (c := c)
  refine goS ?_
  clear fq1
  repeat' (refine bif_if (fun _ => ?_) (fun _ => ?_))
  all_goals (conv => lhs; whnf)
  all_goals (refine okB ?_; unfold prvB inB; first | (simp_all; done) | (rw [Bool.eq_iff_iff]; simp_all; done) | (simp_all; intros; omega))
theorem F_impl_isPrivate {n : Nat} {t : Th} : callP cfg (n+2) 49 [.agg (thA t)] = some ⟨.bool (inB t.pc 32 42), []⟩ := by
  rw [callP_succ]
  have fq1 := fun {n : Nat} {a : Int} {b : Int} {c : Int} => F_impl_in (n := n) (a := a) (b := b) (c := c)
  refine go ?_
  clear fq1
  try with_reducible rfl
set_option maxHeartbeats 4000000 in
theorem F_impl_SpaceBound {n : Nat} {s : Sta} (hr : s.room) (hi : s.i64) : callP cfg (n+15) 18 [.agg (staA s)] = some ⟨.int .i64 (spaceV s), []⟩ := by
  rw [callP_succ]
  have hl := hr.2.2.1
  have hu := unrV_le (s := s)
  unfold spaceV
  by_cases hs : staB s = true
  · rw [if_pos hs]
    have hc : isCfB s.c = true := by unfold staB at hs; exact (Bool.and_eq_true_iff.1 hs).1
    have hb := isCf_bd hc
    have h00 : IntKind.i64.wrap (s.c.keys + unrV s) = s.c.keys + unrV s := wrapI (by omega) (by omega)
    have fq1 := fun {n : Nat} => F_impl_IsState (n := n) hr hi
    have fq2 := fun {n : Nat} => F_impl_Unretired (n := n) hr hi
    refine go ?_
    clear fq1 fq2
    rw [h00]
    refine (evLoop_gen (fun e (x : Nat × Int) => (e.set 18 (.int .i64 (x.1 : Int))).set 3 (.int .i64 x.2)) (fun h _ => h) (fun x => some ⟨.int .i64 (x.2 + sumT (s.ths.drop x.1)), []⟩) (fun x => x.1 ≤ s.ths.length ∧ 0 ≤ x.2 ∧ x.2 ≤ 2097152 + 3145729 * (x.1 : Int)) (fun x => s.ths.length - x.1) (0, s.c.keys + unrV s) rfl ⟨Nat.zero_le _, by show 0 ≤ s.c.keys + unrV s; omega, by show s.c.keys + unrV s ≤ 2097152 + 3145729 * ((0 : Nat) : Int); omega⟩ (by show _ - _ < 18446744073709551616; omega) ?_).trans rfl
    rintro ⟨k, m⟩ f ⟨hk, h0, h1⟩ IH
    simp only at hk h0 h1 ⊢
    by_cases hlt : k < s.ths.length
    · have e1 := lt_map (f := thA) hlt
      have e2 := nonneg k
      have r1 := map_get (f := thA) hlt
      have hw := wrapS (k := k) (by omega)
      obtain ⟨g1, g2, g3, g4, g5⟩ := hr.2.2.2 _ (getD_mem hlt)
      have hlen : lenT (s.ths.getD k default) = ((s.ths.getD k default).buf.length : Int) + (s.ths.getD k default).work.length + (s.ths.getD k default).limbo.length := rfl
      have hs0 : IntKind.i64.wrap (m + IntKind.i64.wrap (IntKind.i64.wrap ((((s.ths.getD k default).buf.map entA).length : Int) + (((s.ths.getD k default).work.map entA).length : Int)) + (((s.ths.getD k default).limbo.map iA).length : Int))) = m + lenT (s.ths.getD k default) := by
        simp only [List.length_map]
        rw [wrapI (x := ((s.ths.getD k default).buf.length : Int) + ((s.ths.getD k default).work.length : Int)) (by omega) (by omega), wrapI (x := ((s.ths.getD k default).buf.length : Int) + ((s.ths.getD k default).work.length : Int) + ((s.ths.getD k default).limbo.length : Int)) (by omega) (by omega), wrapI (x := m + (((s.ths.getD k default).buf.length : Int) + ((s.ths.getD k default).work.length : Int) + ((s.ths.getD k default).limbo.length : Int))) (by omega) (by omega)]; omega
      have hs1 : IntKind.i64.wrap (IntKind.i64.wrap (m + IntKind.i64.wrap (IntKind.i64.wrap ((((s.ths.getD k default).buf.map entA).length : Int) + (((s.ths.getD k default).work.map entA).length : Int)) + (((s.ths.getD k default).limbo.map iA).length : Int))) + 1) = m + lenT (s.ths.getD k default) + 1 := by
        rw [hs0]; exact wrapI (by omega) (by omega)
      rw [drop_cons hlt, sumT]
      by_cases v1 : inB (s.ths.getD k default).pc 32 42 = true
      · by_cases v2 : ((s.ths.getD k default).node != 0) = true
        · have hv : spB (s.ths.getD k default) = lenT (s.ths.getD k default) + 1 := by unfold spB; rw [if_pos (by unfold prvB; rw [v1, v2]; rfl)]
          have fq1 := fun {n : Nat} {t : Th} => F_impl_isPrivate (n := n) (t := t)
          refine go ?_
          clear fq1
          try with_reducible rfl
          refine (IH (k + 1, m + lenT (s.ths.getD k default) + 1) _ _ ⟨hlt, by show 0 ≤ m + lenT (s.ths.getD k default) + 1; omega, by show m + lenT (s.ths.getD k default) + 1 ≤ 2097152 + 3145729 * ((k + 1 : Nat) : Int); omega⟩ (by show _ - _ < _ - _; omega) (by rw [hw, hs1]; rfl) rfl).trans ?_
          refine okI ?_
          exact (show ∀ X : Int, m + lenT (s.ths.getD k default) + 1 + X = m + (spB (s.ths.getD k default) + X) from fun X => by rw [hv]; omega) _
        · replace v2 : ((s.ths.getD k default).node != 0) = false := by simpa only [Bool.not_eq_true] using v2
          have hv : spB (s.ths.getD k default) = lenT (s.ths.getD k default) + 0 := by unfold spB; rw [if_neg (by unfold prvB; rw [v1, v2]; simp)]
          have fq1 := fun {n : Nat} {t : Th} => F_impl_isPrivate (n := n) (t := t)
          refine go ?_
          clear fq1
          try with_reducible rfl
          refine (IH (k + 1, m + lenT (s.ths.getD k default)) _ _ ⟨hlt, by show 0 ≤ m + lenT (s.ths.getD k default); omega, by show m + lenT (s.ths.getD k default) ≤ 2097152 + 3145729 * ((k + 1 : Nat) : Int); omega⟩ (by show _ - _ < _ - _; omega) (by rw [hw, hs0]; rfl) rfl).trans ?_
          refine okI ?_
          exact (show ∀ X : Int, m + lenT (s.ths.getD k default) + X = m + (spB (s.ths.getD k default) + X) from fun X => by rw [hv]; omega) _
      · replace v1 : inB (s.ths.getD k default).pc 32 42 = false := by simpa only [Bool.not_eq_true] using v1
        have hv : spB (s.ths.getD k default) = lenT (s.ths.getD k default) + 0 := by unfold spB; rw [if_neg (by unfold prvB; rw [v1]; simp)]
        have fq1 := fun {n : Nat} {t : Th} => F_impl_isPrivate (n := n) (t := t)
        refine go ?_
        clear fq1
        try with_reducible rfl
        refine (IH (k + 1, m + lenT (s.ths.getD k default)) _ _ ⟨hlt, by show 0 ≤ m + lenT (s.ths.getD k default); omega, by show m + lenT (s.ths.getD k default) ≤ 2097152 + 3145729 * ((k + 1 : Nat) : Int); omega⟩ (by show _ - _ < _ - _; omega) (by rw [hw, hs0]; rfl) rfl).trans ?_
        refine okI ?_
        exact (show ∀ X : Int, m + lenT (s.ths.getD k default) + X = m + (spB (s.ths.getD k default) + X) from fun X => by rw [hv]; omega) _
    · have e1 := nlt_map (f := thA) (Nat.le_of_not_lt hlt)
      rw [List.drop_eq_nil_of_le (by omega)]
      refine go ?_
      try with_reducible rfl
      refine okI ?_
      show m = m + 0
      omega
  · replace hs : staB s = false := by simpa only [Bool.not_eq_true] using hs
    rw [if_neg (by rw [hs]; simp)]
    have fq1 := fun {n : Nat} => F_impl_IsState (n := n) hr hi
    refine go ?_
    clear fq1
    try with_reducible rfl
set_option maxHeartbeats 4000000 in
theorem F_spec_SpaceBound {n : Nat} {s : Sta} (hr : s.room) (hi : s.i64) : callP cfg (n+8) 17 [.agg (staA s)] = some ⟨.int .i64 (spaceV s), []⟩ := by
  rw [callP_succ]
  have hl := hr.2.2.1
  have hu := unrV_le (s := s)
  unfold spaceV
  by_cases hs : staB s = true
  · rw [if_pos hs]
    have hc : isCfB s.c = true := by unfold staB at hs; exact (Bool.and_eq_true_iff.1 hs).1
    have hb := isCf_bd hc
    have h00 : IntKind.i64.wrap (s.c.keys + unrV s) = s.c.keys + unrV s := wrapI (by omega) (by omega)
    have fq1 := fun {n : Nat} => F_spec_IsState (n := n) hr hi
    have fq2 := fun {n : Nat} => F_spec_Unretired (n := n) hr hi
    refine go ?_
    clear fq1 fq2
    rw [h00]
    refine (evLoop_gen (fun e (x : Nat × Int) => (e.set 4 (.int .i64 (x.1 : Int))).set 3 (.int .i64 x.2)) (fun h _ => h) (fun x => some ⟨.int .i64 (x.2 + sumT (s.ths.drop x.1)), []⟩) (fun x => x.1 ≤ s.ths.length ∧ 0 ≤ x.2 ∧ x.2 ≤ 2097152 + 3145729 * (x.1 : Int)) (fun x => s.ths.length - x.1) (0, s.c.keys + unrV s) rfl ⟨Nat.zero_le _, by show 0 ≤ s.c.keys + unrV s; omega, by show s.c.keys + unrV s ≤ 2097152 + 3145729 * ((0 : Nat) : Int); omega⟩ (by show _ - _ < 18446744073709551616; omega) ?_).trans rfl
    rintro ⟨k, m⟩ f ⟨hk, h0, h1⟩ IH
    simp only at hk h0 h1 ⊢
    by_cases hlt : k < s.ths.length
    · have e1 := lt_map (f := thA) hlt
      have e2 := nonneg k
      have r1 := map_get (f := thA) hlt
      have hw := wrapS (k := k) (by omega)
      obtain ⟨g1, g2, g3, g4, g5⟩ := hr.2.2.2 _ (getD_mem hlt)
      have hlen : lenT (s.ths.getD k default) = ((s.ths.getD k default).buf.length : Int) + (s.ths.getD k default).work.length + (s.ths.getD k default).limbo.length := rfl
      have hs0 : IntKind.i64.wrap (IntKind.i64.wrap (IntKind.i64.wrap (m + (((s.ths.getD k default).buf.map entA).length : Int)) + (((s.ths.getD k default).work.map entA).length : Int)) + (((s.ths.getD k default).limbo.map iA).length : Int)) = m + lenT (s.ths.getD k default) := by
        simp only [List.length_map]
        rw [wrapI (x := m + ((s.ths.getD k default).buf.length : Int)) (by omega) (by omega), wrapI (x := m + ((s.ths.getD k default).buf.length : Int) + ((s.ths.getD k default).work.length : Int)) (by omega) (by omega), wrapI (x := m + ((s.ths.getD k default).buf.length : Int) + ((s.ths.getD k default).work.length : Int) + ((s.ths.getD k default).limbo.length : Int)) (by omega) (by omega)]; omega
      have hs1 : IntKind.i64.wrap (IntKind.i64.wrap (IntKind.i64.wrap (IntKind.i64.wrap (m + (((s.ths.getD k default).buf.map entA).length : Int)) + (((s.ths.getD k default).work.map entA).length : Int)) + (((s.ths.getD k default).limbo.map iA).length : Int)) + 1) = m + lenT (s.ths.getD k default) + 1 := by
        rw [hs0]; exact wrapI (by omega) (by omega)
      rw [drop_cons hlt, sumT]
      by_cases v1 : prvB (s.ths.getD k default) = true
      · have hv : spB (s.ths.getD k default) = lenT (s.ths.getD k default) + 1 := by unfold spB; rw [if_pos v1]
        have fq1 := fun {n : Nat} {t : Th} => F_spec_l22Private (n := n) (t := t)
        refine go ?_
        clear fq1
        try with_reducible rfl
        refine (IH (k + 1, m + lenT (s.ths.getD k default) + 1) _ _ ⟨hlt, by show 0 ≤ m + lenT (s.ths.getD k default) + 1; omega, by show m + lenT (s.ths.getD k default) + 1 ≤ 2097152 + 3145729 * ((k + 1 : Nat) : Int); omega⟩ (by show _ - _ < _ - _; omega) (by rw [hw, hs1]; rfl) rfl).trans ?_
        refine okI ?_
        exact (show ∀ X : Int, m + lenT (s.ths.getD k default) + 1 + X = m + (spB (s.ths.getD k default) + X) from fun X => by rw [hv]; omega) _
      · have hv : spB (s.ths.getD k default) = lenT (s.ths.getD k default) + 0 := by unfold spB; rw [if_neg v1]
        replace v1 : prvB (s.ths.getD k default) = false := by simpa only [Bool.not_eq_true] using v1
        have fq1 := fun {n : Nat} {t : Th} => F_spec_l22Private (n := n) (t := t)
        refine go ?_
        clear fq1
        try with_reducible rfl
        refine (IH (k + 1, m + lenT (s.ths.getD k default)) _ _ ⟨hlt, by show 0 ≤ m + lenT (s.ths.getD k default); omega, by show m + lenT (s.ths.getD k default) ≤ 2097152 + 3145729 * ((k + 1 : Nat) : Int); omega⟩ (by show _ - _ < _ - _; omega) (by rw [hw, hs0]; rfl) rfl).trans ?_
        refine okI ?_
        exact (show ∀ X : Int, m + lenT (s.ths.getD k default) + X = m + (spB (s.ths.getD k default) + X) from fun X => by rw [hv]; omega) _
    · have e1 := nlt_map (f := thA) (Nat.le_of_not_lt hlt)
      rw [List.drop_eq_nil_of_le (by omega)]
      refine go ?_
      try with_reducible rfl
      refine okI ?_
      show m = m + 0
      omega
  · replace hs : staB s = false := by simpa only [Bool.not_eq_true] using hs
    rw [if_neg (by rw [hs]; simp)]
    have fq1 := fun {n : Nat} => F_spec_IsState (n := n) hr hi
    refine go ?_
    clear fq1
    try with_reducible rfl
set_option maxHeartbeats 4000000 in
theorem F_laws_FnExactSpaceBound {n : Nat} {s : Sta} (hs : s.len) (hi : s.i64) : callP cfg (n+16) 4 [.agg (staA s)] = some ⟨.bool true, []⟩ := by
  rw [callP_succ]
  by_cases hb : szSta s 1048576 < 0
  · have e0 : decide (szSta s 1048576 < 0) = true := by simpa using hb
    have fq1 := fun {n : Nat} => F_laws_szState (n := n) (b := 1048576) hs (by decide) (by decide)
    refine go ?_
    clear fq1
    try with_reducible rfl
  · have e0 : decide (szSta s 1048576 < 0) = false := by simpa using hb
    have hr := szSta_room (s := s) (by omega)
    have e2 : (!decide (s = s)) = false := by simp
    have e3 : ((spaceV s) != (spaceV s)) = false := bne_f rfl
    have fq1 := fun {n : Nat} => F_laws_szState (n := n) (b := 1048576) hs (by decide) (by decide)
    have fq2 := fun {n : Nat} => F_laws_toState (n := n) hr
    have fq3 := fun {n : Nat} {b : Sta} => F_laws_eqState (n := n) (b := b) hs
    have fq4 := fun {n : Nat} => F_spec_SpaceBound (n := n) hr hi
    have fq5 := fun {n : Nat} => F_impl_SpaceBound (n := n) hr hi
    refine goD ?_
    clear fq1 fq2 fq3 fq4 fq5
    try with_reducible rfl
end Go.Proofs.Ytpmlbimlndphhaa.A
namespace Go.Proofs.Ytpmlbimlndphhaa.A
open Go Go.Abs
set_option maxRecDepth 100000
def curB (s : Sta) (h : Int) : Bool := nodeB s.c h && (s.gens.getD (idxB h).toNat default == genB h)
noncomputable def bornV (s : Sta) : Int := if staB s = true then cl s 1 else 0
noncomputable def headV (s : Sta) (k : Int) : Int := if staB s = true ∧ k ≤ s.c.keys - 1 then cl s (headB s.c k) else 0
def fldV (s : Sta) (h f : Int) : Int := cl s (ncB s.c (idxB h) f)
theorem sta_facts {s : Sta} (hs : staB s = true) : isCfB s.c = true ∧ (s.cells.length : Int) = ccB s.c ∧ (s.gens.length : Int) = s.c.cap ∧ (s.ths.length : Int) = s.c.th ∧ (inB (cl s 1) 0 s.c.cap = true ∧ headsB s = true ∧ nodesB s = true ∧ s.ths.all (thB s.c) = true) := by
  unfold staB at hs
  simp only [Bool.and_eq_true] at hs
  obtain ⟨h1, h2, h3, h4, _, h6, _, _, _, _, h7, h8, h9⟩ := hs
  exact ⟨h1, of_decide_eq_true h2, of_decide_eq_true h3, of_decide_eq_true h4, by simp only [Bool.and_eq_true]; exact h6, h7, h8, h9⟩
theorem idx_in {c : Cf} {h : Int} (hn : nodeB c h = true) : 0 ≤ idxB h ∧ idxB h < c.cap := by
  unfold nodeB at hn
  obtain ⟨h1, h2⟩ := Bool.and_eq_true_iff.1 hn
  refine ⟨?_, of_decide_eq_true h2⟩
  unfold idxB
  rw [if_pos h1]
  have := of_decide_eq_true h1
  omega
theorem cc_eq {c : Cf} (hc : isCfB c = true) : ccB c = 2 + 3 * c.th + c.keys + 3 * c.cap := by unfold ccB; rw [if_pos hc]
theorem nc_in' {c : Cf} {i f : Int} (hc : isCfB c = true) (hi : 0 ≤ i ∧ i < c.cap) (hf : 0 ≤ f ∧ f ≤ 2) : 0 ≤ ncB c i f ∧ ncB c i f < ccB c := by
  have hb := isCf_bd hc
  rw [cc_eq hc]
  unfold ncB
  rw [if_pos ⟨hc, ⟨by omega, by omega⟩, hf⟩]
  omega
theorem F_impl_current {n : Nat} {s : Sta} {h : Int} (hs : staB s = true) (hh : I64 h) : callP cfg (n+4) 95 [.pv (staA s), .int .i64 h] = some ⟨.bool (curB s h), []⟩ := by
  rw [callP_succ]
  obtain ⟨hc, m1, m2, m3, _⟩ := sta_facts hs
  unfold curB
  by_cases hn : nodeB s.c h = true
  · have hx := idx_in hn
    have hg : (idxB h).toNat < s.gens.length := by omega
    have e1 : decide (0 ≤ idxB h) = true := decide_eq_true hx.1
    have e2 : decide (idxB h < ((s.gens.map iA).length : Int)) = true := by rw [List.length_map]; exact decide_eq_true (by omega)
    have r1 := map_get (f := iA) hg
    rw [hn, Bool.true_and]
    have fq1 := fun {n : Nat} {c : Cf} => F_impl_isNode (n := n) (c := c) hh
    have fq2 := fun {n : Nat} => F_impl_IndexOf (n := n) hh
    have fq3 := fun {n : Nat} => F_impl_GenerationOf (n := n) hh
    refine go ?_
    clear fq1 fq2 fq3
    try with_reducible rfl
  · replace hn : nodeB s.c h = false := by simpa only [Bool.not_eq_true] using hn
    rw [hn]
    have fq1 := fun {n : Nat} {c : Cf} => F_impl_isNode (n := n) (c := c) hh
    refine go ?_
    clear fq1
    try with_reducible rfl
    rfl
theorem F_spec_IsCurrent {n : Nat} {s : Sta} {h : Int} (hr : s.room) (hi : s.i64) (hh : I64 h) : callP cfg (n+7) 92 [.agg (staA s), .int .i64 h] = some ⟨.bool (staB s && curB s h), []⟩ := by
  rw [callP_succ]
  unfold curB
  by_cases hs : staB s = true
  · obtain ⟨hc, m1, m2, m3, _⟩ := sta_facts hs
    rw [hs, Bool.true_and]
    by_cases h1 : isH h = true
    · by_cases h2 : idxB h < s.c.cap
      · have hn : nodeB s.c h = true := by unfold nodeB; rw [h1]; exact decide_eq_true h2
        have e0 : decide (idxB h < s.c.cap) = true := decide_eq_true h2
        have hx := idx_in hn
        have hg : (idxB h).toNat < s.gens.length := by omega
        have e1 : decide (0 ≤ idxB h) = true := decide_eq_true hx.1
        have e2 : decide (idxB h < ((s.gens.map iA).length : Int)) = true := by rw [List.length_map]; exact decide_eq_true (by omega)
        have r1 := map_get (f := iA) hg
        rw [hn, Bool.true_and]
        have fq1 := fun {n : Nat} => F_spec_IsState (n := n) hr hi
        have fq2 := fun {n : Nat} => F_spec_IsHandle (n := n) hh
        have fq3 := fun {n : Nat} => F_spec_IndexOf (n := n) hh
        have fq4 := fun {n : Nat} => F_spec_GenerationOf (n := n) hh
        refine go ?_
        clear fq1 fq2 fq3 fq4
        try with_reducible rfl
      · have e0 : decide (idxB h < s.c.cap) = false := decide_eq_false h2
        have hn : nodeB s.c h = false := by unfold nodeB; rw [h1, e0]; rfl
        rw [hn]
        have fq1 := fun {n : Nat} => F_spec_IsState (n := n) hr hi
        have fq2 := fun {n : Nat} => F_spec_IsHandle (n := n) hh
        have fq3 := fun {n : Nat} => F_spec_IndexOf (n := n) hh
        refine go ?_
        clear fq1 fq2 fq3
        try with_reducible rfl
        rfl
    · replace h1 : isH h = false := by simpa only [Bool.not_eq_true] using h1
      have hn : nodeB s.c h = false := by unfold nodeB; rw [h1]; rfl
      rw [hn]
      have fq1 := fun {n : Nat} => F_spec_IsState (n := n) hr hi
      have fq2 := fun {n : Nat} => F_spec_IsHandle (n := n) hh
      refine go ?_
      clear fq1 fq2
      try with_reducible rfl
      rfl
  · replace hs : staB s = false := by simpa only [Bool.not_eq_true] using hs
    rw [hs]
    have fq1 := fun {n : Nat} => F_spec_IsState (n := n) hr hi
    refine go ?_
    clear fq1
    try with_reducible rfl
    rfl
theorem F_spec_ArenaCell {n : Nat} : callP cfg (n+1) 87 [] = some ⟨.int .i64 1, []⟩ := by
  rw [callP_succ]
  refine go ?_
  try with_reducible rfl
theorem F_spec_NodesBorn {n : Nat} {s : Sta} (hr : s.room) (hi : s.i64) : callP cfg (n+7) 52 [.agg (staA s)] = some ⟨.int .i64 (bornV s), []⟩ := by
  rw [callP_succ]
  unfold bornV
  by_cases hs : staB s = true
  · obtain ⟨hc, m1, m2, m3, _⟩ := sta_facts hs
    have hb := isCf_bd hc
    have hcc := cc_eq hc
    have c1 : (s.cells.map iA)[(1 : Int).toNat]? = some (iA (cl s 1)) := cl_get (by omega)
    have k1 : decide ((1 : Int) < ((s.cells.map iA).length : Int)) = true := cl_lt (by omega)
    have z1 : decide ((0 : Int) ≤ 1) = true := rfl
    rw [if_pos hs]
    have r9 := c1
    have fq1 := fun {n : Nat} => F_spec_IsState (n := n) hr hi
    have fq2 := fun {n : Nat} => F_spec_ArenaCell (n := n)
    refine go ?_
    clear r9 fq1 fq2
    try with_reducible rfl
  · replace hs : staB s = false := by simpa only [Bool.not_eq_true] using hs
    rw [if_neg (by rw [hs]; simp)]
    have fq1 := fun {n : Nat} => F_spec_IsState (n := n) hr hi
    refine go ?_
    clear fq1
    try with_reducible rfl
theorem F_spec_HeadOf {n : Nat} {s : Sta} {k : Int} (hr : s.room) (hi : s.i64) (hk : 0 ≤ k ∧ k < 4) : callP cfg (n+7) 91 [.agg (staA s), .int .i64 k] = some ⟨.int .i64 (headV s k), []⟩ := by
  rw [callP_succ]
  unfold headV
  by_cases hs : staB s = true
  · obtain ⟨hc, m1, m2, m3, _⟩ := sta_facts hs
    have hb := isCf_bd hc
    have wk : IntKind.i64.wrap (s.c.keys - 1) = s.c.keys - 1 := wrapI (by omega) (by omega)
    by_cases hx : k ≤ s.c.keys - 1
    · have e0 : (decide (0 ≤ k) && decide (k ≤ IntKind.i64.wrap (s.c.keys - 1))) = true := by rw [wk]; simp; omega
      have hh : 0 ≤ headB s.c k ∧ headB s.c k < (s.cells.length : Int) := by
        rw [m1, cc_eq hc]; unfold headB; rw [if_pos ⟨hc, hk.1, hx⟩]; omega
      have e2 : decide (0 ≤ headB s.c k) = true := decide_eq_true hh.1
      have e3 := cl_lt hh
      have r1 := cl_get hh
      rw [if_pos ⟨hs, hx⟩]
      have fq1 := fun {n : Nat} => F_spec_IsState (n := n) hr hi
      have fq2 := fun {n : Nat} {a : Int} {b : Int} {c : Int} => F_spec_l1In (n := n) (a := a) (b := b) (c := c)
      have fq3 := fun {n : Nat} {c : Cf} => F_spec_HeadCell (n := n) (c := c) hk
      refine go ?_
      clear fq1 fq2 fq3
      try with_reducible rfl
    · have e0 : (decide (0 ≤ k) && decide (k ≤ IntKind.i64.wrap (s.c.keys - 1))) = false := by rw [wk]; simp; omega
      rw [if_neg (fun h => hx h.2)]
      have fq1 := fun {n : Nat} => F_spec_IsState (n := n) hr hi
      have fq2 := fun {n : Nat} {a : Int} {b : Int} {c : Int} => F_spec_l1In (n := n) (a := a) (b := b) (c := c)
      refine go ?_
      clear fq1 fq2
      try with_reducible rfl
  · replace hs : staB s = false := by simpa only [Bool.not_eq_true] using hs
    rw [if_neg (fun h => by rw [hs] at h; simp at h)]
    have fq1 := fun {n : Nat} => F_spec_IsState (n := n) hr hi
    refine go ?_
    clear fq1
    try with_reducible rfl
end Go.Proofs.Ytpmlbimlndphhaa.A
namespace Go.Proofs.Ytpmlbimlndphhaa.A
open Go Go.Abs
set_option maxRecDepth 100000
theorem fld_i64 {s : Sta} {h f : Int} (hs : staB s = true) (hi : s.i64) (hn : nodeB s.c h = true) (hf : 0 ≤ f ∧ f ≤ 2) : I64 (fldV s h f) := by
  obtain ⟨hc, m1, m2, m3, _⟩ := sta_facts hs
  have hh := nc_in' hc (idx_in hn) hf
  rw [← m1] at hh
  exact hi.1 _ (cl_mem hh)
noncomputable def loadV (s : Sta) (h f : Int) : Int := if staB s = true ∧ curB s h = true then fldV s h f else 0
def walkL (s : Sta) : Nat → Int → List Int
  | 0, _ => []
  | n + 1, h => if curB s h = true then h :: walkL s n (unmk (fldV s h 2)) else []
theorem okT2 {a a' : Int} {c c' : Bool} (h1 : a = a') (h3 : c = c') : some (⟨.tup [.int .i64 a, .bool c], []⟩ : Res) = some ⟨.tup [.int .i64 a', .bool c'], []⟩ := by rw [h1, h3]
theorem cur_node {s : Sta} {h : Int} (hc : curB s h = true) : nodeB s.c h = true := by
  unfold curB at hc
  exact (Bool.and_eq_true_iff.1 hc).1
theorem F_impl_cell {n : Nat} {s : Sta} {h f : Int} (hs : staB s = true) (hh : I64 h) (hn : nodeB s.c h = true) (hf : 0 ≤ f ∧ f ≤ 2) : callP cfg (n+4) 90 [.pv (staA s), .int .i64 h, .int .i64 f] = some ⟨.int .i64 (fldV s h f), []⟩ := by
  rw [callP_succ]
  obtain ⟨hc, m1, m2, m3, _⟩ := sta_facts hs
  have hb := isCf_bd hc
  have hx := idx_in hn
  have hk : 0 ≤ idxB h ∧ idxB h < 24 := by omega
  have hp := nc_in' hc hx hf
  rw [← m1] at hp
  have e2 : decide (0 ≤ ncB s.c (idxB h) f) = true := decide_eq_true hp.1
  have e3 := cl_lt hp
  have r1 := cl_get hp
  have fq1 := fun {n : Nat} => F_impl_IndexOf (n := n) hh
  have fq2 := fun {n : Nat} {c : Cf} => F_impl_NodeCell (n := n) (c := c) hk hf
  refine go ?_
  clear fq1 fq2
  try with_reducible rfl
  rfl
theorem F_spec_LoadField {n : Nat} {s : Sta} {h f : Int} (hr : s.room) (hi : s.i64) (hh : I64 h) (hf : 0 ≤ f ∧ f ≤ 2) : callP cfg (n+8) 89 [.agg (staA s), .int .i64 h, .int .i64 f] = some ⟨.tup [.int .i64 (loadV s h f), .bool (staB s && curB s h)], []⟩ := by
  rw [callP_succ]
  unfold loadV
  by_cases hs : (staB s && curB s h) = true
  · obtain ⟨ha, hcu⟩ := Bool.and_eq_true_iff.1 hs
    have hn := cur_node hcu
    obtain ⟨hc, m1, m2, m3, _⟩ := sta_facts ha
    have hb := isCf_bd hc
    have hx := idx_in hn
    have hk : 0 ≤ idxB h ∧ idxB h < 24 := by omega
    have hp := nc_in' hc hx hf
    rw [← m1] at hp
    have e2 : decide (0 ≤ ncB s.c (idxB h) f) = true := decide_eq_true hp.1
    have e3 := cl_lt hp
    have r1 := cl_get hp
    have e4 : (decide (0 ≤ f) && decide (f ≤ 2)) = true := by simp; omega
    rw [if_pos ⟨ha, hcu⟩]
    have fq1 := fun {n : Nat} => F_spec_IsCurrent (n := n) hr hi hh
    have fq2 := fun {n : Nat} {a : Int} {b : Int} {c : Int} => F_spec_l1In (n := n) (a := a) (b := b) (c := c)
    have fq3 := fun {n : Nat} => F_spec_IndexOf (n := n) hh
    have fq4 := fun {n : Nat} {c : Cf} => F_spec_NodeCell (n := n) (c := c) hk hf
    refine go ?_
    clear fq1 fq2 fq3 fq4
    try with_reducible rfl
    exact okT2 rfl hs.symm
  · rw [if_neg (fun h => hs (by rw [h.1, h.2]; rfl))]
    replace hs : (staB s && curB s h) = false := by simpa only [Bool.not_eq_true] using hs
    have fq1 := fun {n : Nat} => F_spec_IsCurrent (n := n) hr hi hh
    refine go ?_
    clear fq1
    try with_reducible rfl
    exact okT2 rfl hs.symm
theorem F_impl_listOf {n : Nat} {s : Sta} {k : Nat} (hs : staB s = true) (hr : s.room) (hi : s.i64) (hk : k < s.c.keys.toNat) : callP cfg (n+5) 61 [.pv (staA s), .int .i64 (k : Int)] = some ⟨intsA (walkL s s.c.cap.toNat (unmk (cl s (headB s.c k)))), []⟩ := by
  rw [callP_succ]
  obtain ⟨hc, m1, m2, m3, _⟩ := sta_facts hs
  have hb := isCf_bd hc
  have hk4 : (0 : Int) ≤ (k : Int) ∧ (k : Int) < 4 := by omega
  have hp := head_in hc hk
  rw [← m1] at hp
  have e2 : decide (0 ≤ headB s.c k) = true := decide_eq_true hp.1
  have e3 := cl_lt hp
  have r1 := cl_get hp
  have hm := hi.1 _ (cl_mem hp)
  have e4 : decide (headB s.c k < 0) = false := decide_eq_false (by omega)
  have fq1 := fun {n : Nat} {c : Cf} => F_impl_HeadCell (n := n) (c := c) hk4
  have fq2 := fun {n : Nat} => F_impl_Unmarked (n := n) hm
  refine go ?_
  clear fq1 fq2
  refine (evLoop_gen (fun e (x : List Int × Int) => e.set 7 (.int .i64 x.2)) (fun h x => h.set 3 (some ⟨false, false, false, 1, x.1.map iA⟩)) (fun x => some ⟨intsA (x.1 ++ walkL s (s.c.cap.toNat - x.1.length) x.2), []⟩) (fun x => x.1.length ≤ s.c.cap.toNat ∧ I64 x.2) (fun x => s.c.cap.toNat - x.1.length) ([], unmk (cl s (headB s.c k))) rfl ⟨Nat.zero_le _, unmk_i64 hm⟩ (by show _ - _ < 18446744073709551616; omega) ?_).trans rfl
  clear hp e2 e3 r1 hm e4
  rintro ⟨out, h⟩ f ⟨hk, hh⟩ IH
  simp only at hk hh ⊢
  by_cases hcu : curB s h = true
  · have hn := cur_node hcu
    by_cases hlt : out.length < s.c.cap.toNat
    · have e1 : decide (((out.map iA).length : Int) < s.c.cap) = true := by rw [List.length_map]; exact decide_eq_true (by omega)
      have e5 : decide (((out.map iA).length + 1) * 8 ≤ roomB) = true := decide_eq_true (by rw [List.length_map]; show _ ≤ 140737488355328; omega)
      have hx := idx_in hn
      have hk2 : 0 ≤ idxB h ∧ idxB h < 24 := by omega
      have hp := nc_in' (f := 2) hc hx (by omega)
      rw [← m1] at hp
      have e2 : decide (0 ≤ ncB s.c (idxB h) 2) = true := decide_eq_true hp.1
      have e3 := cl_lt hp
      have r1 := cl_get hp
      have hm : I64 (fldV s h 2) := hi.1 _ (cl_mem hp)
      have hm2 : I64 (cl s (ncB s.c (idxB h) 2)) := hm
      have hf2 : (0 : Int) ≤ 2 ∧ (2 : Int) ≤ 2 := by omega
      obtain ⟨d, hd⟩ : ∃ d, s.c.cap.toNat - out.length = d + 1 := ⟨s.c.cap.toNat - out.length - 1, by omega⟩
      have x1 := fun {x y : R} => br_pos (x := x) (y := y) e5
      have fq1 := fun {n : Nat} => F_impl_current (n := n) hs hh
      have fq2 := fun {n : Nat} => F_impl_IndexOf (n := n) hh
      have fq3 := fun {n : Nat} {c : Cf} => F_impl_NodeCell (n := n) (c := c) hk2 hf2
      have fq4 := fun {n : Nat} => F_impl_Unmarked (n := n) hm2
      refine go ?_
      clear x1 fq1 fq2 fq3 fq4
      try with_reducible rfl
      refine (IH (out ++ [h], unmk (fldV s h 2)) _ _ ⟨by show (out ++ [h]).length ≤ _; rw [List.length_append, List.length_singleton]; omega, unmk_i64 hm⟩ (by show _ - (out ++ [h]).length < _ - out.length; rw [List.length_append, List.length_singleton]; omega) rfl (by simp only [List.map_append, List.map_cons, List.map_nil]; rfl)).trans ?_
      have hd' : s.c.cap.toNat - (out ++ [h]).length = d := by rw [List.length_append, List.length_singleton]; omega
      show some (⟨intsA ((out ++ [h]) ++ walkL s (s.c.cap.toNat - (out ++ [h]).length) (unmk (fldV s h 2))), []⟩ : Res) = _
      rw [hd', hd, walkL, if_pos hcu, List.append_assoc]
      rfl
    · have e1 : decide (((out.map iA).length : Int) < s.c.cap) = false := by rw [List.length_map]; exact decide_eq_false (by omega)
      have hd : s.c.cap.toNat - out.length = 0 := by omega
      rw [hd, walkL, List.append_nil]
      have fq1 := fun {n : Nat} => F_impl_current (n := n) hs hh
      refine go ?_
      clear fq1
      try with_reducible rfl
  · replace hcu : curB s h = false := by simpa only [Bool.not_eq_true] using hcu
    have hw : walkL s (s.c.cap.toNat - out.length) h = [] := by
      cases s.c.cap.toNat - out.length with
      | zero => rfl
      | succ d => rw [walkL, if_neg (by rw [hcu]; simp)]
    rw [hw, List.append_nil]
    have fq1 := fun {n : Nat} => F_impl_current (n := n) hs hh
    refine go ?_
    clear fq1
    try with_reducible rfl
theorem unmk_lnk {c : Cf} {h : Int} (hl : lnkB c h = true) : unmk h = h := by
  unfold unmk
  rw [if_neg]
  intro hm
  unfold lnkB at hl
  rw [hm] at hl
  simp only [Bool.not_true, Bool.and_false, Bool.or_false, decide_eq_true_eq] at hl
  subst hl
  revert hm
  decide
theorem head_lnk {s : Sta} {k : Nat} (hs : staB s = true) (hk : k < s.c.keys.toNat) : lnkB s.c (cl s (headB s.c k)) = true := by
  obtain ⟨_, _, _, _, _, h, _⟩ := sta_facts hs
  unfold headsB at h
  exact List.all_eq_true.1 h k (List.mem_range.2 hk)
theorem F_spec_ListOf {n : Nat} {s : Sta} {k : Nat} (hs : staB s = true) (hr : s.room) (hi : s.i64) (hk : k < s.c.keys.toNat) : callP cfg (n+9) 57 [.agg (staA s), .int .i64 (k : Int)] = some ⟨intsA (walkL s s.c.cap.toNat (unmk (cl s (headB s.c k)))), []⟩ := by
  rw [callP_succ]
  obtain ⟨hc, m1, m2, m3, _⟩ := sta_facts hs
  have hb := isCf_bd hc
  have hk4 : (0 : Int) ≤ (k : Int) ∧ (k : Int) < 4 := by omega
  have hp := head_in hc hk
  rw [← m1] at hp
  have hm := hi.1 _ (cl_mem hp)
  rw [unmk_lnk (head_lnk hs hk)]
  have hv : headV s k = cl s (headB s.c k) := by unfold headV; rw [if_pos ⟨hs, by omega⟩]
  have fq1 := fun {n : Nat} => F_spec_HeadOf (n := n) hr hi hk4
  refine go ?_
  clear fq1
  rw [hv]
  refine (evLoop_gen (fun e (x : List Int × Int) => (e.set 6 (.int .i64 x.2)).set 7 (.int .i64 (x.1.length : Int))) (fun h x => h.set 3 (some ⟨false, false, false, 1, x.1.map iA⟩)) (fun x => some ⟨intsA (x.1 ++ walkL s (s.c.cap.toNat - x.1.length) x.2), []⟩) (fun x => x.1.length ≤ s.c.cap.toNat ∧ I64 x.2) (fun x => s.c.cap.toNat - x.1.length) ([], cl s (headB s.c k)) rfl ⟨Nat.zero_le _, hm⟩ (by show _ - _ < 18446744073709551616; omega) ?_).trans rfl
  clear hp hm hv
  rintro ⟨out, h⟩ f ⟨hk, hh⟩ IH
  simp only at hk hh ⊢
  by_cases hlt : out.length < s.c.cap.toNat
  · have e1 : decide ((out.length : Int) < s.c.cap) = true := decide_eq_true (by omega)
    by_cases hcu : curB s h = true
    · have hn := cur_node hcu
      have e0 : (staB s && curB s h) = true := by rw [hs, hcu]; rfl
      have e5 : decide (((out.map iA).length + 1) * 8 ≤ roomB) = true := decide_eq_true (by rw [List.length_map]; show _ ≤ 140737488355328; omega)
      have hw := wrapS (k := out.length) (by omega)
      have hl : loadV s h 2 = fldV s h 2 := by unfold loadV; rw [if_pos ⟨hs, hcu⟩]
      have hm : I64 (fldV s h 2) := fld_i64 hs hi hn (by omega)
      have hm2 : I64 (loadV s h 2) := by rw [hl]; exact hm
      have hf2 : (0 : Int) ≤ 2 ∧ (2 : Int) ≤ 2 := by omega
      obtain ⟨d, hd⟩ : ∃ d, s.c.cap.toNat - out.length = d + 1 := ⟨s.c.cap.toNat - out.length - 1, by omega⟩
      have x1 := fun {x y : R} => br_pos (x := x) (y := y) e5
      have fq1 := fun {n : Nat} => F_spec_IsCurrent (n := n) hr hi hh
      have fq2 := fun {n : Nat} => F_spec_LoadField (n := n) hr hi hh hf2
      have fq3 := fun {n : Nat} => F_spec_Unmarked (n := n) hm2
      refine go ?_
      clear x1 fq1 fq2 fq3
      try with_reducible rfl
      refine (IH (out ++ [h], unmk (fldV s h 2)) _ _ ⟨by show (out ++ [h]).length ≤ _; rw [List.length_append, List.length_singleton]; omega, unmk_i64 hm⟩ (by show _ - (out ++ [h]).length < _ - out.length; rw [List.length_append, List.length_singleton]; omega) (by simp only [List.length_append, List.length_singleton]; rw [hw, hl]; rfl) (by simp only [List.map_append, List.map_cons, List.map_nil]; rfl)).trans ?_
      have hd' : s.c.cap.toNat - (out ++ [h]).length = d := by rw [List.length_append, List.length_singleton]; omega
      show some (⟨intsA ((out ++ [h]) ++ walkL s (s.c.cap.toNat - (out ++ [h]).length) (unmk (fldV s h 2))), []⟩ : Res) = _
      rw [hd', hd, walkL, if_pos hcu, List.append_assoc]
      rfl
    · replace hcu : curB s h = false := by simpa only [Bool.not_eq_true] using hcu
      have e0 : (staB s && curB s h) = false := by rw [hs, hcu]; rfl
      have hw : walkL s (s.c.cap.toNat - out.length) h = [] := by
        cases s.c.cap.toNat - out.length with
        | zero => rfl
        | succ d => rw [walkL, if_neg (by rw [hcu]; simp)]
      rw [hw, List.append_nil]
      have fq1 := fun {n : Nat} => F_spec_IsCurrent (n := n) hr hi hh
      refine go ?_
      clear fq1
      try with_reducible rfl
  · have e1 : decide ((out.length : Int) < s.c.cap) = false := decide_eq_false (by omega)
    have hd : s.c.cap.toNat - out.length = 0 := by omega
    rw [hd, walkL, List.append_nil]
    refine go ?_
    try with_reducible rfl
end Go.Proofs.Ytpmlbimlndphhaa.A
namespace Go.Proofs.Ytpmlbimlndphhaa.A
open Go Go.Abs
set_option maxRecDepth 100000
def listV (s : Sta) (k : Nat) : List Int := walkL s s.c.cap.toNat (unmk (cl s (headB s.c k)))
def linkedB (s : Sta) (i : Int) : Bool := (List.range s.c.keys.toNat).any fun k => (listV s k).any fun h => idxB h == i
theorem walk_len {s : Sta} : ∀ (n : Nat) {h : Int}, (walkL s n h).length ≤ n
  | 0, _ => Nat.le_refl _
  | n + 1, h => by
    rw [walkL]
    split
    · rw [List.length_cons]; have := walk_len (s := s) n (h := unmk (fldV s h 2)); omega
    · exact Nat.zero_le _
theorem walk_i64 {s : Sta} (hs : staB s = true) (hi : s.i64) : ∀ (n : Nat) {h : Int}, I64 h → ∀ x ∈ walkL s n h, I64 x ∧ curB s x = true
  | 0, _, _, x, hx => by cases hx
  | n + 1, h, hh, x, hx => by
    rw [walkL] at hx
    split at hx
    · rename_i hc
      rcases List.mem_cons.1 hx with rfl | hx
      · exact ⟨hh, hc⟩
      · exact walk_i64 hs hi n (unmk_i64 (fld_i64 hs hi (cur_node hc) (by omega))) x hx
    · cases hx
theorem list_i64 {s : Sta} {k : Nat} (hs : staB s = true) (hi : s.i64) (hk : k < s.c.keys.toNat) : ∀ x ∈ listV s k, I64 x ∧ curB s x = true := by
  obtain ⟨hc, m1, _⟩ := sta_facts hs
  have hp := head_in hc hk
  rw [← m1] at hp
  exact walk_i64 hs hi _ (unmk_i64 (hi.1 _ (cl_mem hp)))
theorem F_spec_l22Linked {n : Nat} {s : Sta} {i : Int} (hs : staB s = true) (hr : s.room) (hi : s.i64) : callP cfg (n+10) 86 [.agg (staA s), .int .i64 i] = some ⟨.bool (linkedB s i), []⟩ := by
  rw [callP_succ]
  obtain ⟨hc, m1, m2, m3, _⟩ := sta_facts hs
  have hb := isCf_bd hc
  unfold linkedB
  refine go ?_
  refine (evLoop_run (fun e k => e.set 5 (.int .i64 (k : Int))) (fun h _ => h) (fun k => some ⟨.bool (((List.range s.c.keys.toNat).drop k).any fun k => (listV s k).any fun h => idxB h == i), []⟩) s.c.keys.toNat (by show _ < 18446744073709551616; omega) rfl ?_).trans rfl
  intro k f hk IH
  by_cases hlt : k < s.c.keys.toNat
  · have e1 : decide ((k : Int) < s.c.keys) = true := decide_eq_true (by omega)
    have hw := wrapS (k := k) (by omega)
    have hL := walk_len (s := s) s.c.cap.toNat (h := unmk (cl s (headB s.c k)))
    rw [range_drop hlt, List.any_cons]
    have fq1 := fun {n : Nat} => F_spec_ListOf (n := n) hs hr hi hlt
    refine go ?_
    clear fq1
    refine (evLoop_run (fun e j => e.set 7 (.int .i64 (j : Int))) (fun h _ => h) (fun j => some ⟨.bool ((((listV s k).drop j).any fun h => idxB h == i) || (((List.range s.c.keys.toNat).drop (k + 1)).any fun k => (listV s k).any fun h => idxB h == i)), []⟩) (listV s k).length (by show _ < 18446744073709551616; unfold listV; omega) rfl ?_).trans rfl
    intro j f' hj IH2
    by_cases hlj : j < (listV s k).length
    · have d1 : decide ((j : Int) < (((walkL s s.c.cap.toNat (unmk (cl s (headB s.c k)))).map iA).length : Int)) = true := lt_map (f := iA) hlj
      have d2 := nonneg j
      have r1 : ((walkL s s.c.cap.toNat (unmk (cl s (headB s.c k)))).map iA)[j]? = some (iA ((listV s k).getD j default)) := map_get (f := iA) hlj
      have hwj := wrapS (k := j) (by unfold listV at hlj; omega)
      have hm := (list_i64 hs hi hlt _ (getD_mem hlj)).1
      rw [drop_cons hlj, List.any_cons]
      by_cases hv : (idxB ((listV s k).getD j default) == i) = true
      · rw [hv]
        have fq1 := fun {n : Nat} => F_spec_IndexOf (n := n) hm
        refine go ?_
        clear fq1
        try with_reducible rfl
        rfl
      · replace hv : (idxB ((listV s k).getD j default) == i) = false := by simpa only [Bool.not_eq_true] using hv
        rw [hv, Bool.false_or]
        have fq1 := fun {n : Nat} => F_spec_IndexOf (n := n) hm
        refine go ?_
        clear fq1
        try with_reducible rfl
        exact IH2 hlj _ _ (by rw [hwj]; rfl) rfl
    · have d1 : decide ((j : Int) < (((walkL s s.c.cap.toNat (unmk (cl s (headB s.c k)))).map iA).length : Int)) = false := nlt_map (f := iA) (Nat.le_of_not_lt hlj)
      rw [List.drop_eq_nil_of_le (by omega), List.any_nil, Bool.false_or]
      refine go ?_
      try with_reducible rfl
      exact IH hlt _ _ (by rw [hw]; rfl) rfl
  · have e1 : decide ((k : Int) < s.c.keys) = false := decide_eq_false (by omega)
    rw [List.drop_eq_nil_of_le (by rw [List.length_range]; omega), List.any_nil]
    refine go ?_
    try with_reducible rfl
end Go.Proofs.Ytpmlbimlndphhaa.A
namespace Go.Proofs.Ytpmlbimlndphhaa.A
open Go Go.Abs
set_option maxRecDepth 100000
abbrev NC : Type := Int × Int
def hit (st : NC) (b : Bool) (c : Int) : NC := if b = true then (st.1 + 1, c) else st
def evF (i c : Int) (st : NC) (x : Int) : NC := hit st (x == i) c
def evH (i c : Int) (st : NC) (x : Int) : NC := hit st (idxB x == i) c
def evE (i c : Int) (st : NC) (e : Ent) : NC := hit st (idxB e.h == i) c
abbrev prvI (i : Int) (t : Th) : Bool := prvB t && (idxB t.node == i)
def stepT (i : Int) (st : NC) (t : Th) : NC := hit (t.limbo.foldl (evH i 5) (t.free.foldl (evF i 1) st)) (prvI i t) 2
def stepW (i : Int) (st : NC) (t : Th) : NC := t.work.foldl (evE i 4) st
def finC (s : Sta) (i : Int) (st : NC) : NC := if linkedB s i = true then (st.1 + 1, 3) else s.ths.foldl (stepW i) st
def cntV (s : Sta) (i : Int) : NC := finC s i (s.ths.foldl (stepT i) (0, 0))
abbrev ncA (p : NC) : AV := .tup [.int .i64 p.1, .int .i64 p.2]
theorem hit_t {st : NC} {b : Bool} {c : Int} (h : b = true) : hit st b c = (st.1 + 1, c) := by unfold hit; rw [if_pos h]
theorem hit_f {st : NC} {b : Bool} {c : Int} (h : b = false) : hit st b c = st := by unfold hit; rw [if_neg (by rw [h]; simp)]
set_option maxHeartbeats 8000000 in
theorem F_spec_l22Count {n : Nat} {s : Sta} {i : Int} (hs : staB s = true) (hr : s.room) (hi : s.i64) : callP cfg (n+11) 51 [.agg (staA s), .int .i64 i] = some ⟨ncA (cntV s i), []⟩ := by
  rw [callP_succ]
  have hl := hr.2.2.1
  unfold cntV
  refine go ?_
  refine (evLoop_gen (fun e (x : Nat × NC) => ((e.set 8 (.int .i64 (x.1 : Int))).set 6 (.int .i64 x.2.1)).set 7 (.int .i64 x.2.2)) (fun h _ => h) (fun x => some ⟨ncA (finC s i ((s.ths.drop x.1).foldl (stepT i) x.2)), []⟩) (fun x => x.1 ≤ s.ths.length ∧ 0 ≤ x.2.1 ∧ x.2.1 ≤ 2097153 * (x.1 : Int)) (fun x => s.ths.length - x.1) (0, (0, 0)) rfl ⟨Nat.zero_le _, by decide, by decide⟩ (by show _ - _ < 18446744073709551616; omega) ?_).trans rfl
  rintro ⟨k, st⟩ f ⟨hk, h0, h1⟩ IH
  simp only at hk h0 h1 ⊢
  by_cases hlt : k < s.ths.length
  · have e1 := lt_map (f := thA) hlt
    have e2 := nonneg k
    have r1 := map_get (f := thA) hlt
    have hw := wrapS (k := k) (by omega)
    obtain ⟨g1, g2, g3, g4, g5⟩ := hr.2.2.2 _ (getD_mem hlt)
    obtain ⟨hnode, _, _, _, _, _, hlim⟩ := hi.2 _ (getD_mem hlt)
    rw [drop_cons hlt, List.foldl_cons]
    unfold stepT
    refine go ?_
    refine (evLoop_gen (fun e (x : Nat × NC) => ((e.set 10 (.int .i64 (x.1 : Int))).set 6 (.int .i64 x.2.1)).set 7 (.int .i64 x.2.2)) (fun h _ => h) (fun x => some ⟨ncA (finC s i ((s.ths.drop (k + 1)).foldl (stepT i) (hit ((s.ths.getD k default).limbo.foldl (evH i 5) (((s.ths.getD k default).free.drop x.1).foldl (evF i 1) x.2)) (prvI i (s.ths.getD k default)) 2))), []⟩) (fun x => x.1 ≤ (s.ths.getD k default).free.length ∧ 0 ≤ x.2.1 ∧ x.2.1 ≤ 2097153 * (k : Int) + (x.1 : Int)) (fun x => (s.ths.getD k default).free.length - x.1) (0, st) rfl ⟨Nat.zero_le _, h0, by show st.1 ≤ 2097153 * (k : Int) + ((0 : Nat) : Int); omega⟩ (by show _ - _ < 18446744073709551616; omega) ?_).trans rfl
    clear h0 h1
    rintro ⟨j, st⟩ f' ⟨hj, h0, h1⟩ IH2
    simp only at hj h0 h1 ⊢
    by_cases hlj : j < (s.ths.getD k default).free.length
    · have d1 := lt_map (f := iA) hlj
      have d2 := nonneg j
      have q1 := map_get (f := iA) hlj
      have hwj := wrapS (k := j) (by omega)
      have hws : IntKind.i64.wrap (st.1 + 1) = st.1 + 1 := wrapI (by omega) (by omega)
      rw [drop_cons hlj, List.foldl_cons]
      skip
      by_cases hv : (((s.ths.getD k default).free.getD j default) == i) = true
      · have hh : evF i 1 st ((s.ths.getD k default).free.getD j default) = (st.1 + 1, 1) := hit_t hv
        rw [hh]
        have r9 := q1
        refine go ?_
        clear r9
        try with_reducible rfl
        exact IH2 (j + 1, (st.1 + 1, 1)) _ _ ⟨hlj, by show 0 ≤ st.1 + 1; omega, by show st.1 + 1 ≤ 2097153 * (k : Int) + ((j + 1 : Nat) : Int); omega⟩ (by show _ - _ < _ - _; omega) (by rw [hwj, hws]; rfl) rfl
      · replace hv : (((s.ths.getD k default).free.getD j default) == i) = false := by simpa only [Bool.not_eq_true] using hv
        have hh : evF i 1 st ((s.ths.getD k default).free.getD j default) = st := hit_f hv
        rw [hh]
        have r9 := q1
        refine go ?_
        clear r9
        try with_reducible rfl
        exact IH2 (j + 1, st) _ _ ⟨hlj, h0, by show st.1 ≤ 2097153 * (k : Int) + ((j + 1 : Nat) : Int); omega⟩ (by show _ - _ < _ - _; omega) (by rw [hwj]; rfl) rfl
    · have d1 := nlt_map (f := iA) (Nat.le_of_not_lt hlj)
      rw [List.drop_eq_nil_of_le (by omega), List.foldl_nil]
      have hj1 : (j : Int) ≤ 1048576 := by omega
      clear IH2
      refine go ?_
      refine (evLoop_gen (fun e (x : Nat × NC) => ((e.set 11 (.int .i64 (x.1 : Int))).set 6 (.int .i64 x.2.1)).set 7 (.int .i64 x.2.2)) (fun h _ => h) (fun x => some ⟨ncA (finC s i ((s.ths.drop (k + 1)).foldl (stepT i) (hit (((s.ths.getD k default).limbo.drop x.1).foldl (evH i 5) x.2) (prvI i (s.ths.getD k default)) 2))), []⟩) (fun x => x.1 ≤ (s.ths.getD k default).limbo.length ∧ 0 ≤ x.2.1 ∧ x.2.1 ≤ 2097153 * (k : Int) + 1048576 + (x.1 : Int)) (fun x => (s.ths.getD k default).limbo.length - x.1) (0, st) rfl ⟨Nat.zero_le _, h0, by show st.1 ≤ 2097153 * (k : Int) + 1048576 + ((0 : Nat) : Int); omega⟩ (by show _ - _ < 18446744073709551616; omega) ?_).trans rfl
      clear h0 h1
      rintro ⟨j, st⟩ f' ⟨hj, h0, h1⟩ IH2
      simp only at hj h0 h1 ⊢
      by_cases hlj : j < (s.ths.getD k default).limbo.length
      · have d1 := lt_map (f := iA) hlj
        have d2 := nonneg j
        have q1 := map_get (f := iA) hlj
        have hwj := wrapS (k := j) (by omega)
        have hws : IntKind.i64.wrap (st.1 + 1) = st.1 + 1 := wrapI (by omega) (by omega)
        rw [drop_cons hlj, List.foldl_cons]
        have hm := hlim _ (getD_mem hlj)
        by_cases hv : (idxB ((s.ths.getD k default).limbo.getD j default) == i) = true
        · have hh : evH i 5 st ((s.ths.getD k default).limbo.getD j default) = (st.1 + 1, 5) := hit_t hv
          rw [hh]
          have r9 := q1
          have fq1 := fun {n : Nat} => F_spec_IndexOf (n := n) hm
          refine go ?_
          clear r9 fq1
          try with_reducible rfl
          exact IH2 (j + 1, (st.1 + 1, 5)) _ _ ⟨hlj, by show 0 ≤ st.1 + 1; omega, by show st.1 + 1 ≤ 2097153 * (k : Int) + 1048576 + ((j + 1 : Nat) : Int); omega⟩ (by show _ - _ < _ - _; omega) (by rw [hwj, hws]; rfl) rfl
        · replace hv : (idxB ((s.ths.getD k default).limbo.getD j default) == i) = false := by simpa only [Bool.not_eq_true] using hv
          have hh : evH i 5 st ((s.ths.getD k default).limbo.getD j default) = st := hit_f hv
          rw [hh]
          have r9 := q1
          have fq1 := fun {n : Nat} => F_spec_IndexOf (n := n) hm
          refine go ?_
          clear r9 fq1
          try with_reducible rfl
          exact IH2 (j + 1, st) _ _ ⟨hlj, h0, by show st.1 ≤ 2097153 * (k : Int) + 1048576 + ((j + 1 : Nat) : Int); omega⟩ (by show _ - _ < _ - _; omega) (by rw [hwj]; rfl) rfl
      · have d1 := nlt_map (f := iA) (Nat.le_of_not_lt hlj)
        rw [List.drop_eq_nil_of_le (by omega), List.foldl_nil]
        have hj1 : (j : Int) ≤ 1048576 := by omega
        clear IH2
        have hws : IntKind.i64.wrap (st.1 + 1) = st.1 + 1 := wrapI (by omega) (by omega)
        by_cases v1 : prvB (s.ths.getD k default) = true
        · by_cases v2 : (idxB (s.ths.getD k default).node == i) = true
          · have hh : hit st (prvI i (s.ths.getD k default)) 2 = (st.1 + 1, 2) := hit_t (by unfold prvI; rw [v1, v2]; rfl)
            rw [hh]
            have fq1 := fun {n : Nat} {t : Th} => F_spec_l22Private (n := n) (t := t)
            have fq2 := fun {n : Nat} => F_spec_IndexOf (n := n) hnode
            refine go ?_
            clear fq1 fq2
            try with_reducible rfl
            exact IH (k + 1, (st.1 + 1, 2)) _ _ ⟨hlt, by show 0 ≤ st.1 + 1; omega, by show st.1 + 1 ≤ 2097153 * ((k + 1 : Nat) : Int); omega⟩ (by show _ - _ < _ - _; omega) (by rw [hw, hws]; rfl) rfl
          · replace v2 : (idxB (s.ths.getD k default).node == i) = false := by simpa only [Bool.not_eq_true] using v2
            have hh : hit st (prvI i (s.ths.getD k default)) 2 = st := hit_f (by unfold prvI; rw [v1, v2]; rfl)
            rw [hh]
            have fq1 := fun {n : Nat} {t : Th} => F_spec_l22Private (n := n) (t := t)
            have fq2 := fun {n : Nat} => F_spec_IndexOf (n := n) hnode
            refine go ?_
            clear fq1 fq2
            try with_reducible rfl
            exact IH (k + 1, st) _ _ ⟨hlt, h0, by show st.1 ≤ 2097153 * ((k + 1 : Nat) : Int); omega⟩ (by show _ - _ < _ - _; omega) (by rw [hw]; rfl) rfl
        · replace v1 : prvB (s.ths.getD k default) = false := by simpa only [Bool.not_eq_true] using v1
          have hh : hit st (prvI i (s.ths.getD k default)) 2 = st := hit_f (by unfold prvI; rw [v1]; rfl)
          rw [hh]
          have fq1 := fun {n : Nat} {t : Th} => F_spec_l22Private (n := n) (t := t)
          refine go ?_
          clear fq1
          try with_reducible rfl
          exact IH (k + 1, st) _ _ ⟨hlt, h0, by show st.1 ≤ 2097153 * ((k + 1 : Nat) : Int); omega⟩ (by show _ - _ < _ - _; omega) (by rw [hw]; rfl) rfl
  · have e1 := nlt_map (f := thA) (Nat.le_of_not_lt hlt)
    rw [List.drop_eq_nil_of_le (by omega), List.foldl_nil]
    have hk1 : (k : Int) ≤ 1048576 := by omega
    have hws : IntKind.i64.wrap (st.1 + 1) = st.1 + 1 := wrapI (by omega) (by omega)
    have hb0 : st.1 ≤ 2199024304128 := by omega
    clear IH hlt hk h1 hk1
    unfold finC
    by_cases hL : linkedB s i = true
    · rw [if_pos hL]
      have fq1 := fun {n : Nat} {i : Int} => F_spec_l22Linked (n := n) (i := i) hs hr hi
      refine go ?_
      clear fq1
      try with_reducible rfl
      rw [hws]
    · rw [if_neg hL]
      replace hL : linkedB s i = false := by simpa only [Bool.not_eq_true] using hL
      have fq1 := fun {n : Nat} {i : Int} => F_spec_l22Linked (n := n) (i := i) hs hr hi
      refine go ?_
      clear fq1
      refine (evLoop_gen (fun e (x : Nat × NC) => ((e.set 12 (.int .i64 (x.1 : Int))).set 6 (.int .i64 x.2.1)).set 7 (.int .i64 x.2.2)) (fun h _ => h) (fun x => some ⟨ncA ((s.ths.drop x.1).foldl (stepW i) x.2), []⟩) (fun x => x.1 ≤ s.ths.length ∧ 0 ≤ x.2.1 ∧ x.2.1 ≤ 2199024304128 + 1048576 * (x.1 : Int)) (fun x => s.ths.length - x.1) (0, st) rfl ⟨Nat.zero_le _, h0, by show st.1 ≤ 2199024304128 + 1048576 * ((0 : Nat) : Int); omega⟩ (by show _ - _ < 18446744073709551616; omega) ?_).trans rfl
      clear h0 hb0 hws e1
      rintro ⟨k, st⟩ f ⟨hk, h0, h1⟩ IH
      simp only at hk h0 h1 ⊢
      by_cases hlt : k < s.ths.length
      · have e1 := lt_map (f := thA) hlt
        have e2 := nonneg k
        have r1 := map_get (f := thA) hlt
        have hw := wrapS (k := k) (by omega)
        obtain ⟨g1, g2, g3, g4, g5⟩ := hr.2.2.2 _ (getD_mem hlt)
        obtain ⟨_, _, _, _, _, hwork, _⟩ := hi.2 _ (getD_mem hlt)
        rw [drop_cons hlt, List.foldl_cons]
        unfold stepW
        refine go ?_
        refine (evLoop_gen (fun e (x : Nat × NC) => ((e.set 14 (.int .i64 (x.1 : Int))).set 6 (.int .i64 x.2.1)).set 7 (.int .i64 x.2.2)) (fun h _ => h) (fun x => some ⟨ncA (((s.ths.drop (k + 1)).foldl (stepW i) (((s.ths.getD k default).work.drop x.1).foldl (evE i 4) x.2))), []⟩) (fun x => x.1 ≤ (s.ths.getD k default).work.length ∧ 0 ≤ x.2.1 ∧ x.2.1 ≤ 2199024304128 + 1048576 * (k : Int) + (x.1 : Int)) (fun x => (s.ths.getD k default).work.length - x.1) (0, st) rfl ⟨Nat.zero_le _, h0, by show st.1 ≤ 2199024304128 + 1048576 * (k : Int) + ((0 : Nat) : Int); omega⟩ (by show _ - _ < 18446744073709551616; omega) ?_).trans rfl
        clear h0 h1
        rintro ⟨j, st⟩ f' ⟨hj, h0, h1⟩ IH2
        simp only at hj h0 h1 ⊢
        by_cases hlj : j < (s.ths.getD k default).work.length
        · have d1 := lt_map (f := entA) hlj
          have d2 := nonneg j
          have q1 := map_get (f := entA) hlj
          have hwj := wrapS (k := j) (by omega)
          have hws : IntKind.i64.wrap (st.1 + 1) = st.1 + 1 := wrapI (by omega) (by omega)
          rw [drop_cons hlj, List.foldl_cons]
          have hm := hwork _ (getD_mem hlj)
          by_cases hv : (idxB ((s.ths.getD k default).work.getD j default).h == i) = true
          · have hh : evE i 4 st ((s.ths.getD k default).work.getD j default) = (st.1 + 1, 4) := hit_t hv
            rw [hh]
            have r9 := q1
            have fq1 := fun {n : Nat} => F_spec_IndexOf (n := n) hm
            refine go ?_
            clear r9 fq1
            try with_reducible rfl
            exact IH2 (j + 1, (st.1 + 1, 4)) _ _ ⟨hlj, by show 0 ≤ st.1 + 1; omega, by show st.1 + 1 ≤ 2199024304128 + 1048576 * (k : Int) + ((j + 1 : Nat) : Int); omega⟩ (by show _ - _ < _ - _; omega) (by rw [hwj, hws]; rfl) rfl
          · replace hv : (idxB ((s.ths.getD k default).work.getD j default).h == i) = false := by simpa only [Bool.not_eq_true] using hv
            have hh : evE i 4 st ((s.ths.getD k default).work.getD j default) = st := hit_f hv
            rw [hh]
            have r9 := q1
            have fq1 := fun {n : Nat} => F_spec_IndexOf (n := n) hm
            refine go ?_
            clear r9 fq1
            try with_reducible rfl
            exact IH2 (j + 1, st) _ _ ⟨hlj, h0, by show st.1 ≤ 2199024304128 + 1048576 * (k : Int) + ((j + 1 : Nat) : Int); omega⟩ (by show _ - _ < _ - _; omega) (by rw [hwj]; rfl) rfl
        · have d1 := nlt_map (f := entA) (Nat.le_of_not_lt hlj)
          rw [List.drop_eq_nil_of_le (by omega), List.foldl_nil]
          have hj1 : (j : Int) ≤ 1048576 := by omega
          clear IH2
          refine go ?_
          exact IH (k + 1, st) _ _ ⟨hlt, h0, by show st.1 ≤ 2199024304128 + 1048576 * ((k + 1 : Nat) : Int); omega⟩ (by show _ - _ < _ - _; omega) (by rw [hw]; rfl) rfl
      · have e1 := nlt_map (f := thA) (Nat.le_of_not_lt hlt)
        rw [List.drop_eq_nil_of_le (by omega), List.foldl_nil]
        refine go ?_
        try with_reducible rfl
end Go.Proofs.Ytpmlbimlndphhaa.A
namespace Go.Proofs.Ytpmlbimlndphhaa.A
open Go Go.Abs
set_option maxRecDepth 100000
def clsS (s : Sta) (i : Int) : Int := if i ≥ cl s 1 then (if (cntV s i).1 = 0 then 0 else 6) else if (cntV s i).1 = 1 then (cntV s i).2 else 6
noncomputable def clsV (s : Sta) (i : Int) : Int := if staB s = true ∧ 0 ≤ i ∧ i ≤ s.c.cap - 1 then clsS s i else 6
theorem F_spec_ClassOf {n : Nat} {s : Sta} {i : Int} (hr : s.room) (hi : s.i64) : callP cfg (n+12) 25 [.agg (staA s), .int .i64 i] = some ⟨.int .i64 (clsV s i), []⟩ := by
  rw [callP_succ]
  unfold clsV
  by_cases hs : staB s = true
  · obtain ⟨hc, m1, m2, m3, _⟩ := sta_facts hs
    have hb := isCf_bd hc
    have wk : IntKind.i64.wrap (s.c.cap - 1) = s.c.cap - 1 := wrapI (by omega) (by omega)
    have hbv : bornV s = cl s 1 := by unfold bornV; rw [if_pos hs]
    by_cases hx : 0 ≤ i ∧ i ≤ s.c.cap - 1
    · have e0 : (decide (0 ≤ i) && decide (i ≤ IntKind.i64.wrap (s.c.cap - 1))) = true := by rw [wk]; simp; omega
      rw [if_pos ⟨hs, hx⟩]
      unfold clsS
      by_cases hy : i ≥ cl s 1
      · have e1 : decide (i ≥ bornV s) = true := by rw [hbv]; exact decide_eq_true hy
        rw [if_pos hy]
        by_cases hz : (cntV s i).1 = 0
        · have e2 : ((cntV s i).1 == 0) = true := beq_t hz
          rw [if_pos hz]
          have fq1 := fun {n : Nat} => F_spec_IsState (n := n) hr hi
          have fq2 := fun {n : Nat} {a : Int} {b : Int} {c : Int} => F_spec_l1In (n := n) (a := a) (b := b) (c := c)
          have fq3 := fun {n : Nat} => F_spec_NodesBorn (n := n) hr hi
          have fq4 := fun {n : Nat} {i : Int} => F_spec_l22Count (n := n) (i := i) hs hr hi
          refine go ?_
          clear fq1 fq2 fq3 fq4
          try with_reducible rfl
        · have e2 : ((cntV s i).1 == 0) = false := beq_f hz
          rw [if_neg hz]
          have fq1 := fun {n : Nat} => F_spec_IsState (n := n) hr hi
          have fq2 := fun {n : Nat} {a : Int} {b : Int} {c : Int} => F_spec_l1In (n := n) (a := a) (b := b) (c := c)
          have fq3 := fun {n : Nat} => F_spec_NodesBorn (n := n) hr hi
          have fq4 := fun {n : Nat} {i : Int} => F_spec_l22Count (n := n) (i := i) hs hr hi
          refine go ?_
          clear fq1 fq2 fq3 fq4
          try with_reducible rfl
      · have e1 : decide (i ≥ bornV s) = false := by rw [hbv]; exact decide_eq_false hy
        rw [if_neg hy]
        by_cases hz : (cntV s i).1 = 1
        · have e2 : ((cntV s i).1 != 1) = false := bne_f hz
          rw [if_pos hz]
          have fq1 := fun {n : Nat} => F_spec_IsState (n := n) hr hi
          have fq2 := fun {n : Nat} {a : Int} {b : Int} {c : Int} => F_spec_l1In (n := n) (a := a) (b := b) (c := c)
          have fq3 := fun {n : Nat} => F_spec_NodesBorn (n := n) hr hi
          have fq4 := fun {n : Nat} {i : Int} => F_spec_l22Count (n := n) (i := i) hs hr hi
          refine go ?_
          clear fq1 fq2 fq3 fq4
          try with_reducible rfl
        · have e2 : ((cntV s i).1 != 1) = true := bne_t hz
          rw [if_neg hz]
          have fq1 := fun {n : Nat} => F_spec_IsState (n := n) hr hi
          have fq2 := fun {n : Nat} {a : Int} {b : Int} {c : Int} => F_spec_l1In (n := n) (a := a) (b := b) (c := c)
          have fq3 := fun {n : Nat} => F_spec_NodesBorn (n := n) hr hi
          have fq4 := fun {n : Nat} {i : Int} => F_spec_l22Count (n := n) (i := i) hs hr hi
          refine go ?_
          clear fq1 fq2 fq3 fq4
          try with_reducible rfl
    · have e0 : (decide (0 ≤ i) && decide (i ≤ IntKind.i64.wrap (s.c.cap - 1))) = false := by rw [wk]; simp; omega
      rw [if_neg (fun h => hx h.2)]
      have fq1 := fun {n : Nat} => F_spec_IsState (n := n) hr hi
      have fq2 := fun {n : Nat} {a : Int} {b : Int} {c : Int} => F_spec_l1In (n := n) (a := a) (b := b) (c := c)
      have fq3 := fun {n : Nat} => F_spec_NodesBorn (n := n) hr hi
      refine go ?_
      clear fq1 fq2 fq3
      try with_reducible rfl
  · replace hs : staB s = false := by simpa only [Bool.not_eq_true] using hs
    rw [if_neg (fun h => by rw [hs] at h; simp at h)]
    have fq1 := fun {n : Nat} => F_spec_IsState (n := n) hr hi
    have fq2 := fun {n : Nat} {a : Int} {b : Int} {c : Int} => F_spec_l1In (n := n) (a := a) (b := b) (c := c)
    have fq3 := fun {n : Nat} => F_spec_NodesBorn (n := n) hr hi
    refine go ?_
    clear fq1 fq2 fq3
    try with_reducible rfl
end Go.Proofs.Ytpmlbimlndphhaa.A
namespace Go.Proofs.Ytpmlbimlndphhaa.A
open Go Go.Abs
set_option maxRecDepth 100000
def cntN (p : Nat → Bool) : List Nat → Int
  | [] => 0
  | i :: l => (if p i = true then 1 else 0) + cntN p l
noncomputable def ccV (s : Sta) (c : Int) : Int := if staB s = true then cntN (fun i => clsV s i == c) (List.range s.c.cap.toNat) else 0
noncomputable def alV (s : Sta) : Int := if staB s = true then cntN (fun i => (clsV s i != 0) && (clsV s i != 1)) (List.range s.c.cap.toNat) else 0
theorem F_spec_CountClass {n : Nat} {s : Sta} {c : Int} (hr : s.room) (hi : s.i64) : callP cfg (n+13) 27 [.agg (staA s), .int .i64 c] = some ⟨.int .i64 (ccV s c), []⟩ := by
  rw [callP_succ]
  unfold ccV
  by_cases hs : staB s = true
  · rw [if_pos hs]
    have hc := (sta_facts hs).1
    have hb := isCf_bd hc
    refine go ?_
    refine (evLoop_gen (fun e (x : Nat × Int) => (e.set 6 (.int .i64 (x.1 : Int))).set 5 (.int .i64 x.2)) (fun h _ => h) (fun x => some ⟨.int .i64 (x.2 + cntN (fun i => clsV s i == c) ((List.range s.c.cap.toNat).drop x.1)), []⟩) (fun x => x.1 ≤ s.c.cap.toNat ∧ 0 ≤ x.2 ∧ x.2 ≤ x.1) (fun x => s.c.cap.toNat - x.1) (0, 0) rfl ⟨Nat.zero_le _, by decide, by decide⟩ (by show _ - _ < 18446744073709551616; omega) ?_).trans (okI (Int.zero_add _))
    rintro ⟨k, m⟩ f ⟨hk, h0, h1⟩ IH
    simp only at hk h0 h1 ⊢
    by_cases hlt : k < s.c.cap.toNat
    · have e1 : decide ((k : Int) < s.c.cap) = true := decide_eq_true (by omega)
      have hw := wrapS (k := k) (by omega)
      have hwm : IntKind.i64.wrap (m + 1) = m + 1 := wrapI (by omega) (by omega)
      rw [range_drop hlt, cntN]
      by_cases v : (clsV s k == c) = true
      · rw [if_pos v]
        have fq1 := fun {n : Nat} => F_spec_IsState (n := n) hr hi
        have fq2 := fun {n : Nat} {i : Int} => F_spec_ClassOf (n := n) (i := i) hr hi
        refine go ?_
        clear fq1 fq2
        try with_reducible rfl
        exact ((IH (k + 1, m + 1) _ _ ⟨hlt, by show 0 ≤ m + 1; omega, by show m + 1 ≤ ((k + 1 : Nat) : Int); omega⟩ (by show _ - _ < _ - _; omega) (by rw [hw, hwm]; rfl) rfl).trans (okI (Int.add_assoc m 1 _)))
      · rw [if_neg v]
        replace v : (clsV s k == c) = false := by simpa only [Bool.not_eq_true] using v
        have fq1 := fun {n : Nat} => F_spec_IsState (n := n) hr hi
        have fq2 := fun {n : Nat} {i : Int} => F_spec_ClassOf (n := n) (i := i) hr hi
        refine go ?_
        clear fq1 fq2
        try with_reducible rfl
        exact ((IH (k + 1, m) _ _ ⟨hlt, h0, by show m ≤ ((k + 1 : Nat) : Int); omega⟩ (by show _ - _ < _ - _; omega) (by rw [hw]; rfl) rfl).trans (okI (congrArg (m + ·) (Int.zero_add _)).symm))
    · have e1 : decide ((k : Int) < s.c.cap) = false := decide_eq_false (by omega)
      rw [List.drop_eq_nil_of_le (by rw [List.length_range]; omega)]
      refine go ?_
      try with_reducible rfl
      exact okI (Int.add_zero m).symm
  · replace hs : staB s = false := by simpa only [Bool.not_eq_true] using hs
    rw [if_neg (by rw [hs]; simp)]
    refine go ?_
    refine (evLoop_run (fun e k => (e.set 6 (.int .i64 (k : Int))).set 5 (.int .i64 0)) (fun h _ => h) (fun _ => some ⟨.int .i64 0, []⟩) 0 (by decide) rfl ?_).trans rfl
    intro k f hk IH
    obtain rfl : k = 0 := by omega
    clear IH hk
    by_cases hlt : (0 : Int) < s.c.cap
    · have e1 : decide (((0 : Nat) : Int) < s.c.cap) = true := decide_eq_true hlt
      have fq1 := fun {n : Nat} => F_spec_IsState (n := n) hr hi
      refine go ?_
      clear fq1
      try with_reducible rfl
    · have e1 : decide (((0 : Nat) : Int) < s.c.cap) = false := decide_eq_false hlt
      refine go ?_
      try with_reducible rfl
theorem F_spec_Allocated {n : Nat} {s : Sta} (hr : s.room) (hi : s.i64) : callP cfg (n+13) 33 [.agg (staA s)] = some ⟨.int .i64 (alV s), []⟩ := by
  rw [callP_succ]
  unfold alV
  by_cases hs : staB s = true
  · rw [if_pos hs]
    have hc := (sta_facts hs).1
    have hb := isCf_bd hc
    refine go ?_
    refine (evLoop_gen (fun e (x : Nat × Int) => (e.set 4 (.int .i64 (x.1 : Int))).set 3 (.int .i64 x.2)) (fun h _ => h) (fun x => some ⟨.int .i64 (x.2 + cntN (fun i => (clsV s i != 0) && (clsV s i != 1)) ((List.range s.c.cap.toNat).drop x.1)), []⟩) (fun x => x.1 ≤ s.c.cap.toNat ∧ 0 ≤ x.2 ∧ x.2 ≤ x.1) (fun x => s.c.cap.toNat - x.1) (0, 0) rfl ⟨Nat.zero_le _, by decide, by decide⟩ (by show _ - _ < 18446744073709551616; omega) ?_).trans (okI (Int.zero_add _))
    rintro ⟨k, m⟩ f ⟨hk, h0, h1⟩ IH
    simp only at hk h0 h1 ⊢
    by_cases hlt : k < s.c.cap.toNat
    · have e1 : decide ((k : Int) < s.c.cap) = true := decide_eq_true (by omega)
      have hw := wrapS (k := k) (by omega)
      have hwm : IntKind.i64.wrap (m + 1) = m + 1 := wrapI (by omega) (by omega)
      rw [range_drop hlt, cntN]
      by_cases v : (clsV s k != 0) = true
      · by_cases v2 : (clsV s k != 1) = true
        · rw [if_pos (by rw [v, v2]; rfl)]
          have fq1 := fun {n : Nat} => F_spec_IsState (n := n) hr hi
          have fq2 := fun {n : Nat} {i : Int} => F_spec_ClassOf (n := n) (i := i) hr hi
          refine go ?_
          clear fq1 fq2
          try with_reducible rfl
          exact ((IH (k + 1, m + 1) _ _ ⟨hlt, by show 0 ≤ m + 1; omega, by show m + 1 ≤ ((k + 1 : Nat) : Int); omega⟩ (by show _ - _ < _ - _; omega) (by rw [hw, hwm]; rfl) rfl).trans (okI (Int.add_assoc m 1 _)))
        · rw [if_neg (fun h => v2 (Bool.and_eq_true_iff.1 h).2)]
          replace v2 : (clsV s k != 1) = false := by simpa only [Bool.not_eq_true] using v2
          have fq1 := fun {n : Nat} => F_spec_IsState (n := n) hr hi
          have fq2 := fun {n : Nat} {i : Int} => F_spec_ClassOf (n := n) (i := i) hr hi
          refine go ?_
          clear fq1 fq2
          try with_reducible rfl
          exact ((IH (k + 1, m) _ _ ⟨hlt, h0, by show m ≤ ((k + 1 : Nat) : Int); omega⟩ (by show _ - _ < _ - _; omega) (by rw [hw]; rfl) rfl).trans (okI (congrArg (m + ·) (Int.zero_add _)).symm))
      · rw [if_neg (fun h => v (Bool.and_eq_true_iff.1 h).1)]
        replace v : (clsV s k != 0) = false := by simpa only [Bool.not_eq_true] using v
        have fq1 := fun {n : Nat} => F_spec_IsState (n := n) hr hi
        have fq2 := fun {n : Nat} {i : Int} => F_spec_ClassOf (n := n) (i := i) hr hi
        refine go ?_
        clear fq1 fq2
        try with_reducible rfl
        exact ((IH (k + 1, m) _ _ ⟨hlt, h0, by show m ≤ ((k + 1 : Nat) : Int); omega⟩ (by show _ - _ < _ - _; omega) (by rw [hw]; rfl) rfl).trans (okI (congrArg (m + ·) (Int.zero_add _)).symm))
    · have e1 : decide ((k : Int) < s.c.cap) = false := decide_eq_false (by omega)
      rw [List.drop_eq_nil_of_le (by rw [List.length_range]; omega)]
      refine go ?_
      try with_reducible rfl
      exact okI (Int.add_zero m).symm
  · replace hs : staB s = false := by simpa only [Bool.not_eq_true] using hs
    rw [if_neg (by rw [hs]; simp)]
    refine go ?_
    refine (evLoop_run (fun e k => (e.set 4 (.int .i64 (k : Int))).set 3 (.int .i64 0)) (fun h _ => h) (fun _ => some ⟨.int .i64 0, []⟩) 0 (by decide) rfl ?_).trans rfl
    intro k f hk IH
    obtain rfl : k = 0 := by omega
    clear IH hk
    by_cases hlt : (0 : Int) < s.c.cap
    · have e1 : decide (((0 : Nat) : Int) < s.c.cap) = true := decide_eq_true hlt
      have fq1 := fun {n : Nat} => F_spec_IsState (n := n) hr hi
      refine go ?_
      clear fq1
      try with_reducible rfl
    · have e1 : decide (((0 : Nat) : Int) < s.c.cap) = false := decide_eq_false hlt
      refine go ?_
      try with_reducible rfl
theorem F_spec_IsConserved {n : Nat} {s : Sta} (hr : s.room) (hi : s.i64) : callP cfg (n+14) 29 [.agg (staA s)] = some ⟨.bool (staB s && (ccV s 6 == 0)), []⟩ := by
  rw [callP_succ]
  by_cases hs : staB s = true
  · rw [hs, Bool.true_and]
    have fq1 := fun {n : Nat} => F_spec_IsState (n := n) hr hi
    have fq2 := fun {n : Nat} {c : Int} => F_spec_CountClass (n := n) (c := c) hr hi
    refine go ?_
    clear fq1 fq2
    try with_reducible rfl
  · replace hs : staB s = false := by simpa only [Bool.not_eq_true] using hs
    rw [hs]
    have fq1 := fun {n : Nat} => F_spec_IsState (n := n) hr hi
    refine go ?_
    clear fq1
    try with_reducible rfl
    rfl
end Go.Proofs.Ytpmlbimlndphhaa.A
namespace Go.Proofs.Ytpmlbimlndphhaa.A
open Go Go.Abs
set_option maxRecDepth 100000
def app (st : NC) (E : List Int) : NC := E.foldl (fun st c => (st.1 + 1, c)) st
def evIf (b : Bool) (c : Int) : List Int := if b = true then [c] else []
theorem hit_app {st : NC} {b : Bool} {c : Int} : hit st b c = app st (evIf b c) := by
  unfold hit evIf; split <;> rfl
theorem app_app {st : NC} {E E' : List Int} : app (app st E) E' = app st (E ++ E') := by
  unfold app; rw [List.foldl_append]
theorem fold_app {α : Type} {g : NC → α → NC} {e : α → List Int} (h : ∀ st x, g st x = app st (e x)) : ∀ (l : List α) (st : NC), l.foldl g st = app st (l.flatMap e)
  | [], st => rfl
  | x :: l, st => by
    rw [List.foldl_cons, h, fold_app h l, app_app, List.flatMap_cons]
def evT (i : Int) (t : Th) : List Int := t.free.flatMap (fun x => evIf (x == i) 1) ++ (t.limbo.flatMap (fun x => evIf (idxB x == i) 5) ++ evIf (prvI i t) 2)
def evW (i : Int) (t : Th) : List Int := t.work.flatMap fun e => evIf (idxB e.h == i) 4
theorem stepT_app {i : Int} {st : NC} {t : Th} : stepT i st t = app st (evT i t) := by
  unfold stepT evT
  rw [fold_app (g := evF i 1) (e := fun x => evIf (x == i) 1) (fun _ _ => hit_app), fold_app (g := evH i 5) (e := fun x => evIf (idxB x == i) 5) (fun _ _ => hit_app), hit_app, app_app, app_app]
theorem stepW_app {i : Int} {st : NC} {t : Th} : stepW i st t = app st (evW i t) := by
  unfold stepW evW
  exact fold_app (g := evE i 4) (e := fun e => evIf (idxB e.h == i) 4) (fun _ _ => hit_app) _ _
/-- one thread after another, its entries of work after its own nodes -/
def stepI (lk : Bool) (i : Int) (st : NC) (t : Th) : NC := if lk = true then stepT i st t else stepW i (stepT i st t) t
theorem app_len {st : NC} : ∀ (E : List Int), (app st E).1 = st.1 + E.length := by
  intro E
  induction E generalizing st with
  | nil => simp [app]
  | cons c E ih =>
    show (app (st.1 + 1, c) E).1 = _
    rw [ih, List.length_cons]
    show st.1 + 1 + (E.length : Int) = _
    omega
theorem perm_ev {i : Int} : ∀ (l : List Th), (l.flatMap (evT i) ++ l.flatMap (evW i)).Perm (l.flatMap fun t => evT i t ++ evW i t)
  | [] => List.Perm.refl _
  | t :: l => by
    simp only [List.flatMap_cons]
    have ih := perm_ev (i := i) l
    refine List.Perm.trans ?_ (List.Perm.append_left (evT i t ++ evW i t) ih)
    simp only [List.append_assoc]
    refine List.Perm.append_left _ ?_
    rw [← List.append_assoc, ← List.append_assoc]
    exact List.Perm.append_right _ List.perm_append_comm
/-- the count is the same, and the class too where there is one alone -/
theorem cnt_same {s : Sta} {i : Int} (h : linkedB s i = false) : (cntV s i).1 = (s.ths.foldl (stepI false i) (0, 0)).1 ∧ ((cntV s i).1 = 1 → (cntV s i).2 = (s.ths.foldl (stepI false i) (0, 0)).2) := by
  have e1 : cntV s i = app (0, 0) (s.ths.flatMap (evT i) ++ s.ths.flatMap (evW i)) := by
    unfold cntV finC
    rw [if_neg (by rw [h]; simp), fold_app (g := stepW i) (e := evW i) (fun _ _ => stepW_app), fold_app (g := stepT i) (e := evT i) (fun _ _ => stepT_app), app_app]
  have e2 : s.ths.foldl (stepI false i) (0, 0) = app (0, 0) (s.ths.flatMap fun t => evT i t ++ evW i t) := by
    refine fold_app (fun st t => ?_) _ _
    show stepW i (stepT i st t) t = _
    rw [stepW_app, stepT_app, app_app]
  have hp := perm_ev (i := i) s.ths
  rw [e1, e2]
  refine ⟨by rw [app_len, app_len, hp.length_eq], fun h1 => ?_⟩
  rw [app_len] at h1
  have hl : (s.ths.flatMap (evT i) ++ s.ths.flatMap (evW i)).length = 1 := by
    have : ((0 : Int), (0 : Int)).1 = 0 := rfl
    omega
  obtain ⟨c, hc⟩ := List.length_eq_one_iff.1 hl
  rw [hc] at hp ⊢
  rw [List.perm_singleton.1 hp.symm]
theorem cnt_linked {s : Sta} {i : Int} (h : linkedB s i = true) : cntV s i = ((s.ths.foldl (stepI true i) (0, 0)).1 + 1, 3) := by
  unfold cntV finC
  rw [if_pos h]
  rfl
end Go.Proofs.Ytpmlbimlndphhaa.A
