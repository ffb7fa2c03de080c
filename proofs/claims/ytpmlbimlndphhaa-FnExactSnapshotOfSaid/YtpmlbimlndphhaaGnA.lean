/- What the functions of the states answer, part 0: no condition. -/
import Derived.Test.YtpmlbimlndphhaaTab
import Derived.Laws.BitsLemmas
set_option linter.unusedVariables false
set_option linter.unusedSimpArgs false
namespace Go.Proofs.Ytpmlbimlndphhaa.A
open Go Go.Abs
set_option maxRecDepth 100000
theorem okB {x y : Bool} (h : x = y) : some (⟨.bool x, []⟩ : Res) = some ⟨.bool y, []⟩ := by rw [h]
theorem okI {x y : Int} (h : x = y) : some (⟨.int .i64 x, []⟩ : Res) = some ⟨.int .i64 y, []⟩ := by rw [h]
/-- Op -/
structure Op3 where
  k : Int
  key : Int
  v : Int
  deriving Inhabited, DecidableEq
/-- Result -/
structure Rs where
  c : Int
  v : Int
  deriving Inhabited, DecidableEq
/-- Entry -/
structure Ent where
  h : Int
  key : Int
  lo : Int
  hi : Int
  deriving Inhabited, DecidableEq
/-- Config -/
structure Cf where
  th : Int
  keys : Int
  cap : Int
  b : Int
  p : Int
  cm : Int
  deriving Inhabited, DecidableEq
/-- Thread -/
structure Th where
  pc : Int
  op : Op3
  res : Rs
  snap : Int
  node : Int
  prev : Int
  curr : Int
  next : Int
  seen : Int
  stamp : Int
  pos : Int
  found : List Int
  free : List Int
  buf : List Ent
  work : List Ent
  limbo : List Int
  deriving Inhabited, DecidableEq
/-- State -/
structure Sta where
  c : Cf
  cells : List Int
  gens : List Int
  ths : List Th
  steps : Int
  changes : Int
  retries : Int
  faults : Int
  deriving Inhabited, DecidableEq
abbrev iA (n : Int) : List AV := [.int .i64 n]
abbrev intsA (xs : List Int) : AV := .lst 1 (xs.map iA)
abbrev opA (o : Op3) : List AV := [.int .i64 o.k, .int .i64 o.key, .int .i64 o.v]
abbrev rsA (o : Rs) : List AV := [.int .i64 o.c, .int .i64 o.v]
abbrev entA (e : Ent) : List AV := [.int .i64 e.h, .int .i64 e.key, .int .i64 e.lo, .int .i64 e.hi]
abbrev entsA (xs : List Ent) : AV := .lst 4 (xs.map entA)
abbrev cfA (c : Cf) : List AV := [.int .i64 c.th, .int .i64 c.keys, .int .i64 c.cap, .int .i64 c.b, .int .i64 c.p, .int .i64 c.cm]
abbrev thA (t : Th) : List AV := [.int .i64 t.pc, .int .i64 t.op.k, .int .i64 t.op.key, .int .i64 t.op.v, .int .i64 t.res.c, .int .i64 t.res.v, .int .i64 t.snap, .int .i64 t.node, .int .i64 t.prev, .int .i64 t.curr, .int .i64 t.next, .int .i64 t.seen, .int .i64 t.stamp, .int .i64 t.pos, intsA t.found, intsA t.free, entsA t.buf, entsA t.work, intsA t.limbo]
abbrev thsA (xs : List Th) : AV := .lst 19 (xs.map thA)
abbrev staA (s : Sta) : List AV := [.int .i64 s.c.th, .int .i64 s.c.keys, .int .i64 s.c.cap, .int .i64 s.c.b, .int .i64 s.c.p, .int .i64 s.c.cm, intsA s.cells, intsA s.gens, thsA s.ths, .int .i64 s.steps, .int .i64 s.changes, .int .i64 s.retries, .int .i64 s.faults]
def Th.len (t : Th) : Prop := t.found.length ≤ maxLen ∧ t.free.length ≤ maxLen ∧ t.buf.length ≤ maxLen ∧ t.work.length ≤ maxLen ∧ t.limbo.length ≤ maxLen
def Th.room (t : Th) : Prop := t.found.length ≤ 1048576 ∧ t.free.length ≤ 1048576 ∧ t.buf.length ≤ 1048576 ∧ t.work.length ≤ 1048576 ∧ t.limbo.length ≤ 1048576
def Sta.len (s : Sta) : Prop := s.cells.length ≤ maxLen ∧ s.gens.length ≤ maxLen ∧ s.ths.length ≤ maxLen ∧ ∀ t ∈ s.ths, t.len
def Sta.room (s : Sta) : Prop := s.cells.length ≤ 1048576 ∧ s.gens.length ≤ 1048576 ∧ s.ths.length ≤ 1048576 ∧ ∀ t ∈ s.ths, t.room
def sz1 (b : Int) (n : Nat) : Int := if b - n < 0 then -1 else b - n
def szs (b : Int) : List Nat → Int
  | [] => b
  | n :: l => if sz1 b n < 0 then -1 else szs (sz1 b n) l
def Th.sizes (t : Th) : List Nat := [t.found.length, t.free.length, t.buf.length, t.work.length, t.limbo.length]
def szTh (t : Th) (b : Int) : Int := szs b t.sizes
def szTL (b : Int) : List Th → Int
  | [] => b
  | t :: l => if szTh t b < 0 then -1 else szTL (szTh t b) l
def szTs (l : List Th) (b : Int) : Int := if b - l.length < 0 then -1 else szTL (b - l.length) l
def szSta (s : Sta) (b : Int) : Int := if sz1 b s.cells.length < 0 then -1 else if sz1 (sz1 b s.cells.length) s.gens.length < 0 then -1 else if szTs s.ths (sz1 (sz1 b s.cells.length) s.gens.length) < 0 then -1 else szTs s.ths (sz1 (sz1 b s.cells.length) s.gens.length)
theorem sz1_le {b : Int} {n : Nat} (h : b ≤ 1048576) : sz1 b n ≤ 1048576 := by unfold sz1; split <;> omega
theorem szs_le : ∀ (l : List Nat) {b : Int}, b ≤ 1048576 → szs b l ≤ 1048576
  | [], b, h => h
  | n :: l, b, h => by
    unfold szs; split
    · omega
    · exact szs_le l (sz1_le h)
theorem szs_room : ∀ (l : List Nat) {b : Int}, b ≤ 1048576 → 0 ≤ szs b l → ∀ n ∈ l, n ≤ 1048576
  | [], b, h, h0, n, hn => by cases hn
  | m :: l, b, h, h0, n, hn => by
    unfold szs at h0
    split at h0
    · omega
    · rename_i hs
      rcases List.mem_cons.1 hn with rfl | hn
      · unfold sz1 at hs; split at hs <;> omega
      · exact szs_room l (sz1_le h) h0 n hn
theorem szTh_room {t : Th} {b : Int} (h : b ≤ 1048576) (h0 : 0 ≤ szTh t b) : t.room := by
  have H := szs_room t.sizes h h0
  exact ⟨H _ (by simp [Th.sizes]), H _ (by simp [Th.sizes]), H _ (by simp [Th.sizes]), H _ (by simp [Th.sizes]), H _ (by simp [Th.sizes])⟩
theorem szTL_room : ∀ (l : List Th) {b : Int}, b ≤ 1048576 → 0 ≤ szTL b l → ∀ t ∈ l, t.room
  | [], b, h, h0, t, ht => by cases ht
  | u :: l, b, h, h0, t, ht => by
    unfold szTL at h0
    split at h0
    · omega
    · rcases List.mem_cons.1 ht with rfl | ht
      · exact szTh_room h (by omega)
      · exact szTL_room l (szs_le _ h) h0 t ht
theorem szSta_room {s : Sta} (h : 0 ≤ szSta s 1048576) : s.room := by
  unfold szSta at h
  split at h
  · omega
  · rename_i h1
    split at h
    · omega
    · rename_i h2
      split at h
      · omega
      · rename_i h3
        have b1 : sz1 1048576 s.cells.length ≤ 1048576 := sz1_le (by omega)
        have b2 : sz1 (sz1 1048576 s.cells.length) s.gens.length ≤ 1048576 := sz1_le b1
        refine ⟨?_, ?_, ?_, ?_⟩
        · unfold sz1 at h1; split at h1 <;> omega
        · unfold sz1 at h2; split at h2 <;> omega
        · unfold szTs at h3; split at h3 <;> omega
        · unfold szTs at h3
          split at h3
          · omega
          · exact szTL_room s.ths (b := sz1 (sz1 1048576 s.cells.length) s.gens.length - s.ths.length) (by omega) (by omega)
theorem F_impl_in {n : Nat} {a b c : Int} : callP cfg (n+1) 45 [.int .i64 a, .int .i64 b, .int .i64 c] = some ⟨.bool (decide (b ≤ a) && decide (a ≤ c)), []⟩ := by
  rw [callP_succ]
  refine goS ?_
  repeat' (refine bif_if (fun _ => ?_) (fun _ => ?_))
  all_goals (conv => lhs; whnf)
  all_goals (refine okB ?_; simp_all <;> omega)
theorem F_spec_l1In {n : Nat} {a b c : Int} : callP cfg (n+1) 40 [.int .i64 a, .int .i64 b, .int .i64 c] = some ⟨.bool (decide (b ≤ a) && decide (a ≤ c)), []⟩ := by
  rw [callP_succ]
  refine goS ?_
  repeat' (refine bif_if (fun _ => ?_) (fun _ => ?_))
  all_goals (conv => lhs; whnf)
  all_goals (refine okB ?_; simp_all <;> omega)
abbrev inB (a b c : Int) : Bool := decide (b ≤ a) && decide (a ≤ c)
def isCfB (c : Cf) : Bool := inB c.th 1 4 && inB c.keys 1 4 && inB c.cap 1 24 && inB c.b 1 4 && inB c.p 0 2 && inB c.cm 1 99
theorem F_impl_IsConfig {n : Nat} {c : Cf} : callP cfg (n+2) 73 [.agg (cfA c)] = some ⟨.bool (isCfB c), []⟩ := by
  rw [callP_succ]
  have fq1 := fun {n : Nat} {a : Int} {b : Int} {c : Int} => F_impl_in (n := n) (a := a) (b := b) (c := c)
  refine goS ?_
  clear fq1
  repeat' (refine bif_if (fun _ => ?_) (fun _ => ?_))
  all_goals (conv => lhs; whnf)
  all_goals (refine okB ?_; unfold isCfB; simp_all <;> omega)
theorem F_spec_IsConfig {n : Nat} {c : Cf} : callP cfg (n+2) 65 [.agg (cfA c)] = some ⟨.bool (isCfB c), []⟩ := by
  rw [callP_succ]
  have fq1 := fun {n : Nat} {a : Int} {b : Int} {c : Int} => F_spec_l1In (n := n) (a := a) (b := b) (c := c)
  refine goS ?_
  clear fq1
  repeat' (refine bif_if (fun _ => ?_) (fun _ => ?_))
  all_goals (conv => lhs; whnf)
  all_goals (refine okB ?_; unfold isCfB; simp_all <;> omega)
theorem F_laws_toConfig {n : Nat} {c : Cf} : callP cfg (n+1) 41 [.agg (cfA c)] = some ⟨.agg (cfA c), []⟩ := by
  rw [callP_succ]
  refine go ?_
  try with_reducible rfl
theorem F_laws_toOp {n : Nat} {o : Op3} : callP cfg (n+1) 103 [.agg (opA o)] = some ⟨.agg (opA o), []⟩ := by
  rw [callP_succ]
  refine go ?_
  try with_reducible rfl
theorem F_laws_toResult {n : Nat} {o : Rs} : callP cfg (n+1) 104 [.agg (rsA o)] = some ⟨.agg (rsA o), []⟩ := by
  rw [callP_succ]
  refine go ?_
  try with_reducible rfl
theorem F_laws_toEntry {n : Nat} {o : Ent} : callP cfg (n+1) 121 [.agg (entA o)] = some ⟨.agg (entA o), []⟩ := by
  rw [callP_succ]
  refine go ?_
  try with_reducible rfl
theorem F_laws_eqConfig {n : Nat} {a b : Cf} : callP cfg (n+1) 46 [.agg (cfA a), .agg (cfA b)] = some ⟨.bool (decide (a = b)), []⟩ := by
  rw [callP_succ]
  refine goS ?_
  repeat' (refine bif_if (fun _ => ?_) (fun _ => ?_))
  all_goals (conv => lhs; whnf)
  all_goals (refine okB ?_; cases a; cases b; simp_all)
theorem F_laws_eqOp {n : Nat} {a b : Op3} : callP cfg (n+1) 115 [.agg (opA a), .agg (opA b)] = some ⟨.bool (decide (a = b)), []⟩ := by
  rw [callP_succ]
  refine goS ?_
  repeat' (refine bif_if (fun _ => ?_) (fun _ => ?_))
  all_goals (conv => lhs; whnf)
  all_goals (refine okB ?_; cases a; cases b; simp_all)
theorem F_laws_eqResult {n : Nat} {a b : Rs} : callP cfg (n+1) 116 [.agg (rsA a), .agg (rsA b)] = some ⟨.bool (decide (a = b)), []⟩ := by
  rw [callP_succ]
  refine goS ?_
  repeat' (refine bif_if (fun _ => ?_) (fun _ => ?_))
  all_goals (conv => lhs; whnf)
  all_goals (refine okB ?_; cases a; cases b; simp_all)
theorem F_laws_eqEntry {n : Nat} {a b : Ent} : callP cfg (n+1) 128 [.agg (entA a), .agg (entA b)] = some ⟨.bool (decide (a = b)), []⟩ := by
  rw [callP_succ]
  refine goS ?_
  repeat' (refine bif_if (fun _ => ?_) (fun _ => ?_))
  all_goals (conv => lhs; whnf)
  all_goals (refine okB ?_; cases a; cases b; simp_all)
theorem F_laws_eqIntS {n : Nat} {xs ys : List Int} (hx : xs.length ≤ maxLen) : callP cfg (n+1) 21 [intsA xs, intsA ys] = some ⟨.bool (decide (xs = ys)), []⟩ := by
  rw [callP_succ]
  unfold maxLen at hx
  by_cases hl : xs.length = ys.length
  · have e0 : (((xs.map iA).length : Int) != ((ys.map iA).length : Int)) = false := by simp [hl]
    refine go ?_
    refine (evLoop_run (fun e k => e.set 5 (.int .i64 (k : Int))) (fun h _ => h) (fun k => some ⟨.bool (decide (xs.drop k = ys.drop k)), []⟩) xs.length (by show _ < 18446744073709551616; omega) rfl ?_).trans (by simp)
    intro k f hk IH
    by_cases hlt : k < xs.length
    · have e1 := lt_map (f := iA) hlt
      have e2 := nonneg k
      have e3 := lt_map (f := iA) (xs := ys) (k := k) (by omega)
      have r1 := map_get (f := iA) hlt
      have r2 := map_get (l := ys) (f := iA) (i := k) (by omega)
      have hw := wrapS (k := k) (by omega)
      by_cases hv : xs.getD k default = ys.getD k default
      · have e4 := bne_f hv
        refine go ?_
        try with_reducible rfl
        refine (IH hlt _ _ (by rw [hw]; rfl) rfl).trans ?_
        rw [drop_cons hlt, drop_cons (l := ys) (by omega : k < ys.length), hv]
        simp
      · have e4 := bne_t hv
        refine go ?_
        try with_reducible rfl
        rw [drop_cons hlt, drop_cons (l := ys) (by omega : k < ys.length)]
        simp
        exact fun h => absurd h hv
    · have e1 := nlt_map (f := iA) (Nat.le_of_not_lt hlt)
      refine go ?_
      try with_reducible rfl
      rw [List.drop_eq_nil_of_le (by omega), List.drop_eq_nil_of_le (by omega)]
      simp
  · have e0 : (((xs.map iA).length : Int) != ((ys.map iA).length : Int)) = true := bne_t (by simp only [List.length_map]; omega)
    refine go ?_
    try with_reducible rfl
    have : ¬ xs = ys := fun e => hl (by rw [e])
    simp [this]
theorem F_laws_eqEntryS {n : Nat} {xs ys : List Ent} (hx : xs.length ≤ maxLen) : callP cfg (n+2) 117 [entsA xs, entsA ys] = some ⟨.bool (decide (xs = ys)), []⟩ := by
  rw [callP_succ]
  unfold maxLen at hx
  by_cases hl : xs.length = ys.length
  · have e0 : (((xs.map entA).length : Int) != ((ys.map entA).length : Int)) = false := by simp [hl]
    refine go ?_
    refine (evLoop_run (fun e k => e.set 5 (.int .i64 (k : Int))) (fun h _ => h) (fun k => some ⟨.bool (decide (xs.drop k = ys.drop k)), []⟩) xs.length (by show _ < 18446744073709551616; omega) rfl ?_).trans (by simp)
    intro k f hk IH
    by_cases hlt : k < xs.length
    · have e1 := lt_map (f := entA) hlt
      have e2 := nonneg k
      have e3 := lt_map (f := entA) (xs := ys) (k := k) (by omega)
      have r1 := map_get (f := entA) hlt
      have r2 := map_get (l := ys) (f := entA) (i := k) (by omega)
      have hw := wrapS (k := k) (by omega)
      by_cases hv : xs.getD k default = ys.getD k default
      · have e4 : (!decide (xs.getD k default = ys.getD k default)) = false := by rw [hv]; simp
        have fq1 := fun {n : Nat} {a : Ent} {b : Ent} => F_laws_eqEntry (n := n) (a := a) (b := b)
        refine go ?_
        clear fq1
        try with_reducible rfl
        refine (IH hlt _ _ (by rw [hw]; rfl) rfl).trans ?_
        rw [drop_cons hlt, drop_cons (l := ys) (by omega : k < ys.length), hv]
        simp
      · have e4 : (!decide (xs.getD k default = ys.getD k default)) = true := by simpa using hv
        have fq1 := fun {n : Nat} {a : Ent} {b : Ent} => F_laws_eqEntry (n := n) (a := a) (b := b)
        refine go ?_
        clear fq1
        try with_reducible rfl
        rw [drop_cons hlt, drop_cons (l := ys) (by omega : k < ys.length)]
        simp
        exact fun h => absurd h hv
    · have e1 := nlt_map (f := entA) (Nat.le_of_not_lt hlt)
      refine go ?_
      try with_reducible rfl
      rw [List.drop_eq_nil_of_le (by omega), List.drop_eq_nil_of_le (by omega)]
      simp
  · have e0 : (((xs.map entA).length : Int) != ((ys.map entA).length : Int)) = true := bne_t (by simp only [List.length_map]; omega)
    refine go ?_
    try with_reducible rfl
    have : ¬ xs = ys := fun e => hl (by rw [e])
    simp [this]
theorem F_laws_toIntS {n : Nat} {xs : List Int} (hx : xs.length * 8 ≤ 140737488355328) : callP cfg (n+1) 42 [intsA xs] = some ⟨intsA xs, []⟩ := by
  rw [callP_succ]
  have e0 : decide (((((xs.map iA).length : Int)).toNat * ty3.bytes ≤ roomB)) = true := decide_eq_true (by simp only [List.length_map, Int.toNat_natCast]; exact hx)
  have e1 : decide ((0 : Int) ≤ ((xs.map iA).length : Int)) = true := decide_eq_true (by omega)
  have e2 : decide (((xs.map iA).length : Int) ≤ ((xs.map iA).length : Int)) = true := decide_eq_true (by omega)
  refine go ?_
  try with_reducible rfl
  rw [fillR_zero (f := iA) (z := ty3.zero) (xs := xs) (by simp)]
  refine (evLoop_run (fun e k => e.set 4 (.int .i64 (k : Int))) (fun h k => h.set 2 (some ⟨false, false, false, 1, fillR iA ty3.zero xs k⟩)) (fun k => some ⟨intsA xs, []⟩) xs.length (by show _ < 18446744073709551616; omega) rfl ?_).trans rfl
  intro k f hk IH
  by_cases hlt : k < xs.length
  · have e1 := lt_map (f := iA) hlt
    have e2 := nonneg k
    have e3 : decide ((k : Int) < ((fillR iA ty3.zero xs k).length : Int)) = true := decide_eq_true (by rw [fillR_len hk]; omega)
    have hL : k < (fillR iA ty3.zero xs k).length := by rw [fillR_len hk]; exact hlt
    have r1 := map_get (f := iA) hlt
    have r2 := fillR_get (f := iA) (z := ty3.zero) hlt
    have hw := wrapS (k := k) (by omega)
    have st1 := r2
    refine go ?_
    clear st1
    try with_reducible rfl
    refine IH hlt _ _ (by rw [hw]; rfl) (by rw [← fillR_set hlt]; rfl)
  · have e1 := nlt_map (f := iA) (Nat.le_of_not_lt hlt)
    obtain rfl : k = xs.length := by omega
    rw [fillR_end]
    refine go ?_
    try with_reducible rfl
theorem F_laws_toEntryS {n : Nat} {xs : List Ent} (hx : xs.length * 32 ≤ 140737488355328) : callP cfg (n+2) 105 [entsA xs] = some ⟨entsA xs, []⟩ := by
  rw [callP_succ]
  have e0 : decide (((((xs.map entA).length : Int)).toNat * ty90.bytes ≤ roomB)) = true := decide_eq_true (by simp only [List.length_map, Int.toNat_natCast]; exact hx)
  have e1 : decide ((0 : Int) ≤ ((xs.map entA).length : Int)) = true := decide_eq_true (by omega)
  have e2 : decide (((xs.map entA).length : Int) ≤ ((xs.map entA).length : Int)) = true := decide_eq_true (by omega)
  refine go ?_
  try with_reducible rfl
  rw [fillR_zero (f := entA) (z := ty90.zero) (xs := xs) (by simp)]
  refine (evLoop_run (fun e k => e.set 4 (.int .i64 (k : Int))) (fun h k => h.set 2 (some ⟨false, false, false, 4, fillR entA ty90.zero xs k⟩)) (fun k => some ⟨entsA xs, []⟩) xs.length (by show _ < 18446744073709551616; omega) rfl ?_).trans rfl
  intro k f hk IH
  by_cases hlt : k < xs.length
  · have e1 := lt_map (f := entA) hlt
    have e2 := nonneg k
    have e3 : decide ((k : Int) < ((fillR entA ty90.zero xs k).length : Int)) = true := decide_eq_true (by rw [fillR_len hk]; omega)
    have hL : k < (fillR entA ty90.zero xs k).length := by rw [fillR_len hk]; exact hlt
    have r1 := map_get (f := entA) hlt
    have r2 := fillR_get (f := entA) (z := ty90.zero) hlt
    have hw := wrapS (k := k) (by omega)
    have st1 := r2
    have fq1 := fun {n : Nat} {o : Ent} => F_laws_toEntry (n := n) (o := o)
    refine go ?_
    clear st1 fq1
    try with_reducible rfl
    refine IH hlt _ _ (by rw [hw]; rfl) (by rw [← fillR_set hlt]; rfl)
  · have e1 := nlt_map (f := entA) (Nat.le_of_not_lt hlt)
    obtain rfl : k = xs.length := by omega
    rw [fillR_end]
    refine go ?_
    try with_reducible rfl
theorem F_laws_szIntS {n : Nat} {xs : List Int} {b : Int} (hx : xs.length ≤ maxLen) (h0 : 0 ≤ b) (h1 : b ≤ 1048576) : callP cfg (n+1) 37 [intsA xs, .int .i64 b] = some ⟨.int .i64 (sz1 b xs.length), []⟩ := by
  rw [callP_succ]
  unfold maxLen at hx
  have hw : IntKind.i64.wrap (b - ((xs.map iA).length : Int)) = b - xs.length := by
    rw [List.length_map]; exact wrapI (by omega) (by omega)
  unfold sz1
  by_cases hb : b - (xs.length : Int) < 0
  · rw [if_pos hb]
    have e0 : decide (IntKind.i64.wrap (b - ((xs.map iA).length : Int)) < 0) = true := by rw [hw]; simpa using hb
    refine go ?_
    try with_reducible rfl
  · rw [if_neg hb]
    have e0 : decide (IntKind.i64.wrap (b - ((xs.map iA).length : Int)) < 0) = false := by rw [hw]; simpa using hb
    refine go ?_
    try with_reducible rfl
    rw [hw]
theorem F_laws_szEntryS {n : Nat} {xs : List Ent} {b : Int} (hx : xs.length ≤ maxLen) (h0 : 0 ≤ b) (h1 : b ≤ 1048576) : callP cfg (n+1) 98 [entsA xs, .int .i64 b] = some ⟨.int .i64 (sz1 b xs.length), []⟩ := by
  rw [callP_succ]
  unfold maxLen at hx
  have hw : IntKind.i64.wrap (b - ((xs.map entA).length : Int)) = b - xs.length := by
    rw [List.length_map]; exact wrapI (by omega) (by omega)
  unfold sz1
  by_cases hb : b - (xs.length : Int) < 0
  · rw [if_pos hb]
    have e0 : decide (IntKind.i64.wrap (b - ((xs.map entA).length : Int)) < 0) = true := by rw [hw]; simpa using hb
    refine go ?_
    try with_reducible rfl
  · rw [if_neg hb]
    have e0 : decide (IntKind.i64.wrap (b - ((xs.map entA).length : Int)) < 0) = false := by rw [hw]; simpa using hb
    refine go ?_
    try with_reducible rfl
    rw [hw]
end Go.Proofs.Ytpmlbimlndphhaa.A
