/- What the functions of the states answer, part 1: no condition. -/
import Derived.Test.YtpmlbimlndphhaaGnA
set_option linter.unusedVariables false
set_option linter.unusedSimpArgs false
namespace Go.Proofs.Ytpmlbimlndphhaa.A
open Go Go.Abs
set_option maxRecDepth 100000
theorem F_laws_toThread {n : Nat} {t : Th} (ht : t.room) : callP cfg (n+3) 72 [.agg (thA t)] = some ⟨.agg (thA t), []⟩ := by
  rw [callP_succ]
  obtain ⟨h1, h2, h3, h4, h5⟩ := ht
  have g1 : t.found.length * 8 ≤ 140737488355328 := by omega
  have g2 : t.free.length * 8 ≤ 140737488355328 := by omega
  have g3 : t.buf.length * 32 ≤ 140737488355328 := by omega
  have g4 : t.work.length * 32 ≤ 140737488355328 := by omega
  have g5 : t.limbo.length * 8 ≤ 140737488355328 := by omega
  have fq1 := fun {n : Nat} {o : Op3} => F_laws_toOp (n := n) (o := o)
  have fq2 := fun {n : Nat} {o : Rs} => F_laws_toResult (n := n) (o := o)
  have fq3 := fun {n : Nat} => F_laws_toIntS (n := n) g1
  have fq4 := fun {n : Nat} => F_laws_toIntS (n := n) g2
  have fq5 := fun {n : Nat} => F_laws_toIntS (n := n) g5
  have fq6 := fun {n : Nat} => F_laws_toEntryS (n := n) g3
  have fq7 := fun {n : Nat} => F_laws_toEntryS (n := n) g4
  refine go ?_
  clear fq1 fq2 fq3 fq4 fq5 fq6 fq7
  try with_reducible rfl
theorem F_laws_eqThread {n : Nat} {a b : Th} (ha : a.len) : callP cfg (n+3) 84 [.agg (thA a), .agg (thA b)] = some ⟨.bool (decide (a = b)), []⟩ := by
  rw [callP_succ]
  obtain ⟨h1, h2, h3, h4, h5⟩ := ha
  have fq1 := fun {n : Nat} {a : Op3} {b : Op3} => F_laws_eqOp (n := n) (a := a) (b := b)
  have fq2 := fun {n : Nat} {a : Rs} {b : Rs} => F_laws_eqResult (n := n) (a := a) (b := b)
  have fq3 := fun {n : Nat} {ys : List Int} => F_laws_eqIntS (n := n) (ys := ys) h1
  have fq4 := fun {n : Nat} {ys : List Int} => F_laws_eqIntS (n := n) (ys := ys) h2
  have fq5 := fun {n : Nat} {ys : List Int} => F_laws_eqIntS (n := n) (ys := ys) h5
  have fq6 := fun {n : Nat} {ys : List Ent} => F_laws_eqEntryS (n := n) (ys := ys) h3
  have fq7 := fun {n : Nat} {ys : List Ent} => F_laws_eqEntryS (n := n) (ys := ys) h4
  refine goS ?_
  clear fq1 fq2 fq3 fq4 fq5 fq6 fq7
  repeat' (refine bif_if (fun _ => ?_) (fun _ => ?_))
  all_goals (conv => lhs; whnf)
  all_goals (refine okB ?_; obtain ⟨_, ⟨_, _, _⟩, ⟨_, _⟩, _, _, _, _, _, _, _, _, _, _, _, _, _⟩ := a; obtain ⟨_, ⟨_, _, _⟩, ⟨_, _⟩, _, _, _, _, _, _, _, _, _, _, _, _, _⟩ := b; simp_all <;> (intros; simp_all))
theorem F_laws_szThread {n : Nat} {t : Th} {b : Int} (ht : t.len) (h0 : 0 ≤ b) (hb : b ≤ 1048576) : callP cfg (n+2) 64 [.agg (thA t), .int .i64 b] = some ⟨.int .i64 (szTh t b), []⟩ := by
  rw [callP_succ]
  obtain ⟨l0, l1, l2, l3, l4⟩ := ht
  unfold szTh Th.sizes
  simp only [szs]
  by_cases c0 : sz1 b t.found.length < 0
  · rw [if_pos c0]
    have d0 : decide (sz1 b t.found.length < 0) = true := by simpa using c0
    have fq1 := fun {n : Nat} => F_laws_szIntS (n := n) l0 h0 hb
    refine go ?_
    clear fq1
    try with_reducible rfl
  · rw [if_neg c0]
    have d0 : decide (sz1 b t.found.length < 0) = false := by simpa using c0
    have p0 : sz1 b t.found.length ≤ 1048576 := sz1_le hb
    have q0 : 0 ≤ sz1 b t.found.length := by omega
    by_cases c1 : sz1 (sz1 b t.found.length) t.free.length < 0
    · rw [if_pos c1]
      have d1 : decide (sz1 (sz1 b t.found.length) t.free.length < 0) = true := by simpa using c1
      have fq1 := fun {n : Nat} => F_laws_szIntS (n := n) l0 h0 hb
      have fq2 := fun {n : Nat} => F_laws_szIntS (n := n) l1 q0 p0
      refine go ?_
      clear fq1 fq2
      try with_reducible rfl
    · rw [if_neg c1]
      have d1 : decide (sz1 (sz1 b t.found.length) t.free.length < 0) = false := by simpa using c1
      have p1 : sz1 (sz1 b t.found.length) t.free.length ≤ 1048576 := sz1_le p0
      have q1 : 0 ≤ sz1 (sz1 b t.found.length) t.free.length := by omega
      by_cases c2 : sz1 (sz1 (sz1 b t.found.length) t.free.length) t.buf.length < 0
      · rw [if_pos c2]
        have d2 : decide (sz1 (sz1 (sz1 b t.found.length) t.free.length) t.buf.length < 0) = true := by simpa using c2
        have fq1 := fun {n : Nat} => F_laws_szIntS (n := n) l0 h0 hb
        have fq2 := fun {n : Nat} => F_laws_szIntS (n := n) l1 q0 p0
        have fq3 := fun {n : Nat} => F_laws_szEntryS (n := n) l2 q1 p1
        refine go ?_
        clear fq1 fq2 fq3
        try with_reducible rfl
      · rw [if_neg c2]
        have d2 : decide (sz1 (sz1 (sz1 b t.found.length) t.free.length) t.buf.length < 0) = false := by simpa using c2
        have p2 : sz1 (sz1 (sz1 b t.found.length) t.free.length) t.buf.length ≤ 1048576 := sz1_le p1
        have q2 : 0 ≤ sz1 (sz1 (sz1 b t.found.length) t.free.length) t.buf.length := by omega
        by_cases c3 : sz1 (sz1 (sz1 (sz1 b t.found.length) t.free.length) t.buf.length) t.work.length < 0
        · rw [if_pos c3]
          have d3 : decide (sz1 (sz1 (sz1 (sz1 b t.found.length) t.free.length) t.buf.length) t.work.length < 0) = true := by simpa using c3
          have fq1 := fun {n : Nat} => F_laws_szIntS (n := n) l0 h0 hb
          have fq2 := fun {n : Nat} => F_laws_szIntS (n := n) l1 q0 p0
          have fq3 := fun {n : Nat} => F_laws_szEntryS (n := n) l2 q1 p1
          have fq4 := fun {n : Nat} => F_laws_szEntryS (n := n) l3 q2 p2
          refine go ?_
          clear fq1 fq2 fq3 fq4
          try with_reducible rfl
        · rw [if_neg c3]
          have d3 : decide (sz1 (sz1 (sz1 (sz1 b t.found.length) t.free.length) t.buf.length) t.work.length < 0) = false := by simpa using c3
          have p3 : sz1 (sz1 (sz1 (sz1 b t.found.length) t.free.length) t.buf.length) t.work.length ≤ 1048576 := sz1_le p2
          have q3 : 0 ≤ sz1 (sz1 (sz1 (sz1 b t.found.length) t.free.length) t.buf.length) t.work.length := by omega
          by_cases c4 : sz1 (sz1 (sz1 (sz1 (sz1 b t.found.length) t.free.length) t.buf.length) t.work.length) t.limbo.length < 0
          · rw [if_pos c4]
            have d4 : decide (sz1 (sz1 (sz1 (sz1 (sz1 b t.found.length) t.free.length) t.buf.length) t.work.length) t.limbo.length < 0) = true := by simpa using c4
            have fq1 := fun {n : Nat} => F_laws_szIntS (n := n) l0 h0 hb
            have fq2 := fun {n : Nat} => F_laws_szIntS (n := n) l1 q0 p0
            have fq3 := fun {n : Nat} => F_laws_szEntryS (n := n) l2 q1 p1
            have fq4 := fun {n : Nat} => F_laws_szEntryS (n := n) l3 q2 p2
            have fq5 := fun {n : Nat} => F_laws_szIntS (n := n) l4 q3 p3
            refine go ?_
            clear fq1 fq2 fq3 fq4 fq5
            try with_reducible rfl
          · rw [if_neg c4]
            have d4 : decide (sz1 (sz1 (sz1 (sz1 (sz1 b t.found.length) t.free.length) t.buf.length) t.work.length) t.limbo.length < 0) = false := by simpa using c4
            have p4 : sz1 (sz1 (sz1 (sz1 (sz1 b t.found.length) t.free.length) t.buf.length) t.work.length) t.limbo.length ≤ 1048576 := sz1_le p3
            have q4 : 0 ≤ sz1 (sz1 (sz1 (sz1 (sz1 b t.found.length) t.free.length) t.buf.length) t.work.length) t.limbo.length := by omega
            have fq1 := fun {n : Nat} => F_laws_szIntS (n := n) l0 h0 hb
            have fq2 := fun {n : Nat} => F_laws_szIntS (n := n) l1 q0 p0
            have fq3 := fun {n : Nat} => F_laws_szEntryS (n := n) l2 q1 p1
            have fq4 := fun {n : Nat} => F_laws_szEntryS (n := n) l3 q2 p2
            have fq5 := fun {n : Nat} => F_laws_szIntS (n := n) l4 q3 p3
            refine go ?_
            clear fq1 fq2 fq3 fq4 fq5
            try with_reducible rfl

theorem F_laws_eqThreadS {n : Nat} {xs ys : List Th} (hx : xs.length ≤ maxLen) (hxs : ∀ t ∈ xs, t.len) : callP cfg (n+4) 47 [thsA xs, thsA ys] = some ⟨.bool (decide (xs = ys)), []⟩ := by
  rw [callP_succ]
  unfold maxLen at hx
  by_cases hl : xs.length = ys.length
  · have e0 : (((xs.map thA).length : Int) != ((ys.map thA).length : Int)) = false := by simp [hl]
    refine go ?_
    refine (evLoop_run (fun e k => e.set 5 (.int .i64 (k : Int))) (fun h _ => h) (fun k => some ⟨.bool (decide (xs.drop k = ys.drop k)), []⟩) xs.length (by show _ < 18446744073709551616; omega) rfl ?_).trans (by simp)
    intro k f hk IH
    by_cases hlt : k < xs.length
    · have e1 := lt_map (f := thA) hlt
      have e2 := nonneg k
      have e3 := lt_map (f := thA) (xs := ys) (k := k) (by omega)
      have r1 := map_get (f := thA) hlt
      have r2 := map_get (l := ys) (f := thA) (i := k) (by omega)
      have hw := wrapS (k := k) (by omega)
      have hm := hxs _ (getD_mem hlt)
      by_cases hv : xs.getD k default = ys.getD k default
      · have e4 : (!decide (xs.getD k default = ys.getD k default)) = false := by rw [hv]; simp
        have fq1 := fun {n : Nat} {b : Th} => F_laws_eqThread (n := n) (b := b) hm
        refine go ?_
        clear fq1
        try with_reducible rfl
        refine (IH hlt _ _ (by rw [hw]; rfl) rfl).trans ?_
        rw [drop_cons hlt, drop_cons (l := ys) (by omega : k < ys.length), hv]
        simp
      · have e4 : (!decide (xs.getD k default = ys.getD k default)) = true := by simpa using hv
        have fq1 := fun {n : Nat} {b : Th} => F_laws_eqThread (n := n) (b := b) hm
        refine go ?_
        clear fq1
        try with_reducible rfl
        rw [drop_cons hlt, drop_cons (l := ys) (by omega : k < ys.length)]
        simp
        exact fun h => absurd h hv
    · have e1 := nlt_map (f := thA) (Nat.le_of_not_lt hlt)
      refine go ?_
      try with_reducible rfl
      rw [List.drop_eq_nil_of_le (by omega), List.drop_eq_nil_of_le (by omega)]
      simp
  · have e0 : (((xs.map thA).length : Int) != ((ys.map thA).length : Int)) = true := bne_t (by simp only [List.length_map]; omega)
    refine go ?_
    try with_reducible rfl
    have : ¬ xs = ys := fun e => hl (by rw [e])
    simp [this]
set_option maxHeartbeats 2000000 in
theorem F_laws_toThreadS {n : Nat} {xs : List Th} (hx : xs.length * 232 ≤ 140737488355328) (hxs : ∀ t ∈ xs, t.room) : callP cfg (n+4) 43 [thsA xs] = some ⟨thsA xs, []⟩ := by
  rw [callP_succ]
  have e0 : decide (((((xs.map thA).length : Int)).toNat * ty52.bytes ≤ roomB)) = true := decide_eq_true (by simp only [List.length_map, Int.toNat_natCast]; exact hx)
  have e1 : decide ((0 : Int) ≤ ((xs.map thA).length : Int)) = true := decide_eq_true (by omega)
  have e2 : decide (((xs.map thA).length : Int) ≤ ((xs.map thA).length : Int)) = true := decide_eq_true (by omega)
  refine go ?_
  try with_reducible rfl
  rw [fillR_zero (f := thA) (z := ty52.zero) (xs := xs) (by simp)]
  refine (evLoop_run (fun e k => e.set 4 (.int .i64 (k : Int))) (fun h k => h.set 2 (some ⟨false, false, false, 19, fillR thA ty52.zero xs k⟩)) (fun k => some ⟨thsA xs, []⟩) xs.length (by show _ < 18446744073709551616; omega) rfl ?_).trans rfl
  intro k f hk IH
  by_cases hlt : k < xs.length
  · have e1 := lt_map (f := thA) hlt
    have e2 := nonneg k
    have e3 : decide ((k : Int) < ((fillR thA ty52.zero xs k).length : Int)) = true := decide_eq_true (by rw [fillR_len hk]; omega)
    have hL : k < (fillR thA ty52.zero xs k).length := by rw [fillR_len hk]; exact hlt
    have r1 := map_get (f := thA) hlt
    have r2 := fillR_get (f := thA) (z := ty52.zero) hlt
    have hw := wrapS (k := k) (by omega)
    have hm := hxs _ (getD_mem hlt)
    have st1 := r2
    have fq1 := fun {n : Nat} => F_laws_toThread (n := n) hm
    refine go ?_
    clear st1 fq1
    try with_reducible rfl
    refine IH hlt _ _ (by rw [hw]; rfl) (by rw [← fillR_set hlt]; rfl)
  · have e1 := nlt_map (f := thA) (Nat.le_of_not_lt hlt)
    obtain rfl : k = xs.length := by omega
    rw [fillR_end]
    refine go ?_
    try with_reducible rfl
theorem szTh_le {t : Th} {b : Int} (h : b ≤ 1048576) : szTh t b ≤ 1048576 := szs_le _ h
theorem F_laws_szThreadS {n : Nat} {xs : List Th} {b : Int} (hx : xs.length ≤ maxLen) (hxs : ∀ t ∈ xs, t.len) (h0 : 0 ≤ b) (h1 : b ≤ 1048576) : callP cfg (n+3) 38 [thsA xs, .int .i64 b] = some ⟨.int .i64 (szTs xs b), []⟩ := by
  rw [callP_succ]
  unfold maxLen at hx
  have hw : IntKind.i64.wrap (b - ((xs.map thA).length : Int)) = b - xs.length := by
    rw [List.length_map]; exact wrapI (by omega) (by omega)
  unfold szTs
  by_cases hb : b - (xs.length : Int) < 0
  · rw [if_pos hb]
    have e0 : decide (IntKind.i64.wrap (b - ((xs.map thA).length : Int)) < 0) = true := by rw [hw]; simpa using hb
    refine go ?_
    try with_reducible rfl
  · rw [if_neg hb]
    have e0 : decide (IntKind.i64.wrap (b - ((xs.map thA).length : Int)) < 0) = false := by rw [hw]; simpa using hb
    refine go ?_
    conv => lhs; whnf
    rw [hw]
    refine (evLoop_gen (fun e (x : Nat × Int) => (e.set 5 (.int .i64 (x.1 : Int))).set 1 (.int .i64 x.2)) (fun h _ => h) (fun x => some ⟨.int .i64 (szTL x.2 (xs.drop x.1)), []⟩) (fun x => x.1 ≤ xs.length ∧ 0 ≤ x.2 ∧ x.2 ≤ 1048576) (fun x => xs.length - x.1) (0, b - xs.length) rfl ⟨Nat.zero_le _, by omega, by omega⟩ (by show _ - _ < 18446744073709551616; omega) ?_).trans rfl
    rintro ⟨k, b⟩ f ⟨hk, h0, h1⟩ IH
    simp only at hk h0 h1 ⊢
    by_cases hlt : k < xs.length
    · have e1 := lt_map (f := thA) hlt
      have e2 := nonneg k
      have r1 := map_get (f := thA) hlt
      have hw := wrapS (k := k) (by omega)
      have hm := hxs _ (getD_mem hlt)
      rw [drop_cons hlt, szTL]
      by_cases hv : szTh (xs.getD k default) b < 0
      · have e4 : decide (szTh (xs.getD k default) b < 0) = true := by simpa using hv
        rw [if_pos hv]
        have fq1 := fun {n : Nat} => F_laws_szThread (n := n) hm h0 h1
        refine go ?_
        clear fq1
        try with_reducible rfl
      · have e4 : decide (szTh (xs.getD k default) b < 0) = false := by simpa using hv
        have h2 : szTh (xs.getD k default) b ≤ 1048576 := szTh_le h1
        rw [if_neg hv]
        have fq1 := fun {n : Nat} => F_laws_szThread (n := n) hm h0 h1
        refine go ?_
        clear fq1
        try with_reducible rfl
        exact IH (k + 1, szTh (xs.getD k default) b) _ _ ⟨hlt, by omega, h2⟩ (by show _ - _ < _ - _; omega) (by rw [hw]; rfl) rfl
    · have e1 := nlt_map (f := thA) (Nat.le_of_not_lt hlt)
      rw [List.drop_eq_nil_of_le (by omega)]
      refine go ?_
      try with_reducible rfl
      rfl
theorem szTL_le : ∀ (l : List Th) {b : Int}, b ≤ 1048576 → szTL b l ≤ 1048576
  | [], b, h => h
  | t :: l, b, h => by
    unfold szTL; split
    · omega
    · exact szTL_le l (szTh_le h)
theorem szTs_le {l : List Th} {b : Int} (h : b ≤ 1048576) : szTs l b ≤ 1048576 := by
  unfold szTs; split
  · omega
  · exact szTL_le _ (by omega)
theorem F_laws_szState {n : Nat} {s : Sta} {b : Int} (hs : s.len) (h0 : 0 ≤ b) (hb : b ≤ 1048576) : callP cfg (n+4) 12 [.agg (staA s), .int .i64 b] = some ⟨.int .i64 (szSta s b), []⟩ := by
  rw [callP_succ]
  obtain ⟨l0, l1, l2, l3⟩ := hs
  unfold szSta
  by_cases c0 : sz1 b s.cells.length < 0
  · rw [if_pos c0]
    have d0 : decide (sz1 b s.cells.length < 0) = true := by simpa using c0
    have fq1 := fun {n : Nat} => F_laws_szIntS (n := n) l0 h0 hb
    refine go ?_
    clear fq1
    try with_reducible rfl
  · rw [if_neg c0]
    have d0 : decide (sz1 b s.cells.length < 0) = false := by simpa using c0
    have p0 : sz1 b s.cells.length ≤ 1048576 := sz1_le hb
    have q0 : 0 ≤ sz1 b s.cells.length := by omega
    by_cases c1 : sz1 (sz1 b s.cells.length) s.gens.length < 0
    · rw [if_pos c1]
      have d1 : decide (sz1 (sz1 b s.cells.length) s.gens.length < 0) = true := by simpa using c1
      have fq1 := fun {n : Nat} => F_laws_szIntS (n := n) l0 h0 hb
      have fq2 := fun {n : Nat} => F_laws_szIntS (n := n) l1 q0 p0
      refine go ?_
      clear fq1 fq2
      try with_reducible rfl
    · rw [if_neg c1]
      have d1 : decide (sz1 (sz1 b s.cells.length) s.gens.length < 0) = false := by simpa using c1
      have p1 : sz1 (sz1 b s.cells.length) s.gens.length ≤ 1048576 := sz1_le p0
      have q1 : 0 ≤ sz1 (sz1 b s.cells.length) s.gens.length := by omega
      by_cases c2 : szTs s.ths (sz1 (sz1 b s.cells.length) s.gens.length) < 0
      · rw [if_pos c2]
        have d2 : decide (szTs s.ths (sz1 (sz1 b s.cells.length) s.gens.length) < 0) = true := by simpa using c2
        have fq1 := fun {n : Nat} => F_laws_szIntS (n := n) l0 h0 hb
        have fq2 := fun {n : Nat} => F_laws_szIntS (n := n) l1 q0 p0
        have fq3 := fun {n : Nat} => F_laws_szThreadS (n := n) l2 l3 q1 p1
        refine go ?_
        clear fq1 fq2 fq3
        try with_reducible rfl
      · rw [if_neg c2]
        have d2 : decide (szTs s.ths (sz1 (sz1 b s.cells.length) s.gens.length) < 0) = false := by simpa using c2
        have p2 : szTs s.ths (sz1 (sz1 b s.cells.length) s.gens.length) ≤ 1048576 := szTs_le p1
        have q2 : 0 ≤ szTs s.ths (sz1 (sz1 b s.cells.length) s.gens.length) := by omega
        have fq1 := fun {n : Nat} => F_laws_szIntS (n := n) l0 h0 hb
        have fq2 := fun {n : Nat} => F_laws_szIntS (n := n) l1 q0 p0
        have fq3 := fun {n : Nat} => F_laws_szThreadS (n := n) l2 l3 q1 p1
        refine go ?_
        clear fq1 fq2 fq3
        try with_reducible rfl

theorem F_laws_toState {n : Nat} {s : Sta} (hs : s.room) : callP cfg (n+5) 14 [.agg (staA s)] = some ⟨.agg (staA s), []⟩ := by
  rw [callP_succ]
  obtain ⟨h1, h2, h3, h4⟩ := hs
  have g1 : s.cells.length * 8 ≤ 140737488355328 := by omega
  have g2 : s.gens.length * 8 ≤ 140737488355328 := by omega
  have g3 : s.ths.length * 232 ≤ 140737488355328 := by omega
  have fq1 := fun {n : Nat} {c : Cf} => F_laws_toConfig (n := n) (c := c)
  have fq2 := fun {n : Nat} => F_laws_toIntS (n := n) g1
  have fq3 := fun {n : Nat} => F_laws_toIntS (n := n) g2
  have fq4 := fun {n : Nat} => F_laws_toThreadS (n := n) g3 h4
  refine go ?_
  clear fq1 fq2 fq3 fq4
  try with_reducible rfl
theorem F_laws_eqState {n : Nat} {a b : Sta} (ha : a.len) : callP cfg (n+5) 16 [.agg (staA a), .agg (staA b)] = some ⟨.bool (decide (a = b)), []⟩ := by
  rw [callP_succ]
  obtain ⟨h1, h2, h3, h4⟩ := ha
  have fq1 := fun {n : Nat} {a : Cf} {b : Cf} => F_laws_eqConfig (n := n) (a := a) (b := b)
  have fq2 := fun {n : Nat} {ys : List Int} => F_laws_eqIntS (n := n) (ys := ys) h1
  have fq3 := fun {n : Nat} {ys : List Int} => F_laws_eqIntS (n := n) (ys := ys) h2
  have fq4 := fun {n : Nat} {ys : List Th} => F_laws_eqThreadS (n := n) (ys := ys) h3 h4
  refine goS ?_
  clear fq1 fq2 fq3 fq4
  repeat' (refine bif_if (fun _ => ?_) (fun _ => ?_))
  all_goals (conv => lhs; whnf)
  all_goals (refine okB ?_; obtain ⟨⟨_, _, _, _, _, _⟩, _, _, _, _, _, _, _⟩ := a; obtain ⟨⟨_, _, _, _, _, _⟩, _, _, _, _, _, _, _⟩ := b; simp_all <;> (intros; simp_all))
end Go.Proofs.Ytpmlbimlndphhaa.A
