/- What the functions of the states answer, part 14: no condition. -/
import Derived.Test.YtpmlbimlndphhaaGnN
set_option linter.unusedVariables false
set_option linter.unusedSimpArgs false
namespace Go.Proofs.Ytpmlbimlndphhaa.A
open Go Go.Abs
set_option maxRecDepth 100000
def stL (s : Sta) (k : Nat) : List Int := (listV s k).map fun h => fldV s h 0
def badB (l : List Int) (i : Nat) : Bool := (l.getD i default == 0) || (decide (l.getD i default > l.getD (i - 1) default) && (l.getD (i - 1) default != 0))
def ordB (l : List Int) : Bool := !((List.range l.length).drop 1).any (badB l)
noncomputable def safeV (s : Sta) : Bool := (staB s && (ccV s 6 == 0)) && ((s.faults == 0) && (List.range s.c.keys.toNat).all fun k => ordB (stL s k))
theorem pos_ne {x : Int} (h : 0 ≤ x) : decide (x > 0) = (x != 0) := by
  by_cases e : x = 0
  · subst e; rfl
  · have h1 : x > 0 := by omega
    rw [decide_eq_true h1, bne_t e]
theorem take_snoc {f : Int → List AV} {l : List Int} {k : Nat} (h : k < l.length) : (l.take k).map f ++ [f (l.getD k default)] = (l.take (k + 1)).map f := by
  rw [List.take_succ_eq_append_getElem h, List.map_append]
  congr 1
  simp [List.getD_eq_getElem?_getD, h]
theorem getD_map {f : Int → Int} {l : List Int} {k : Nat} (h : k < l.length) : (l.map f).getD k default = f (l.getD k default) := by
  simp [List.getD_eq_getElem?_getD, h]
theorem fld0_bd {s : Sta} {h : Int} (hs : staB s = true) (hn : nodeB s.c h = true) : 0 ≤ fldV s h 0 ∧ fldV s h 0 ≤ 99 := by
  obtain ⟨_, _, _, _, _, _, hno, _⟩ := sta_facts hs
  unfold nodesB at hno
  have hx := idx_in hn
  have := List.all_eq_true.1 hno (idxB h).toNat (List.mem_range.2 (by omega))
  unfold nodeOK at this
  simp only [Bool.and_eq_true] at this
  have e : (((idxB h).toNat : Nat) : Int) = idxB h := by omega
  rw [e] at this
  unfold fldV
  have h2 := this
  simp only [inB, Bool.and_eq_true, decide_eq_true_eq] at h2
  omega
theorem stL_bd {s : Sta} {k i : Nat} (hs : staB s = true) (hi : s.i64) (hk : k < s.c.keys.toNat) (h : i < (stL s k).length) : 0 ≤ (stL s k).getD i default ∧ (stL s k).getD i default ≤ 99 := by
  unfold stL at h ⊢
  rw [List.length_map] at h
  rw [getD_map h]
  exact fld0_bd hs (cur_node (list_i64 hs hi hk _ (getD_mem h)).2)
theorem F_spec_StampsOf {n : Nat} {s : Sta} {k : Nat} (hs : staB s = true) (hr : s.room) (hi : s.i64) (hk : k < s.c.keys.toNat) : callP cfg (n+10) 58 [.agg (staA s), .int .i64 (k : Int)] = some ⟨intsA (stL s k), []⟩ := by
  rw [callP_succ]
  obtain ⟨hc, m1, m2, m3, _⟩ := sta_facts hs
  have hb := isCf_bd hc
  have hL := walk_len (s := s) s.c.cap.toNat (h := unmk (cl s (headB s.c k)))
  have fq1 := fun {n : Nat} => F_spec_ListOf (n := n) hs hr hi hk
  refine go ?_
  clear fq1
  refine (evLoop_run (fun e j => e.set 7 (.int .i64 (j : Int))) (fun h j => h.set 3 (some ⟨false, false, false, 1, ((stL s k).take j).map iA⟩)) (fun _ => some ⟨intsA (stL s k), []⟩) (listV s k).length (by show _ < 18446744073709551616; unfold listV; omega) rfl ?_).trans rfl
  intro j f hj IH
  by_cases hlj : j < (listV s k).length
  · have d1 : decide ((j : Int) < (((walkL s s.c.cap.toNat (unmk (cl s (headB s.c k)))).map iA).length : Int)) = true := lt_map (f := iA) hlj
    have d2 := nonneg j
    have r1 : ((walkL s s.c.cap.toNat (unmk (cl s (headB s.c k)))).map iA)[j]? = some (iA ((listV s k).getD j default)) := map_get (f := iA) hlj
    have hwj := wrapS (k := j) (by unfold listV at hlj; omega)
    obtain ⟨hm, hcu⟩ := list_i64 hs hi hk _ (getD_mem hlj)
    have hn := cur_node hcu
    have x5 : decide ((((stL s k).take j).map iA).length + 1 ≤ 17592186044416) = true := by
      refine decide_eq_true ?_
      rw [List.length_map, List.length_take]
      unfold listV at hlj
      omega
    have e5 : decide (((((stL s k).take j).map iA).length + 1) * 8 ≤ roomB) = true := decide_eq_true (by have := of_decide_eq_true x5; show _ ≤ 140737488355328; omega)
    clear x5
    have hst : j < (stL s k).length := by unfold stL; rw [List.length_map]; exact hlj
    have hv : (stL s k).getD j default = fldV s ((listV s k).getD j default) 0 := getD_map hlj
    have hf0 : (0 : Int) ≤ 0 ∧ (0 : Int) ≤ 2 := by omega
    have hl : loadV s ((listV s k).getD j default) 0 = fldV s ((listV s k).getD j default) 0 := by unfold loadV; rw [if_pos ⟨hs, hcu⟩]
    rw [← hl] at hv
    have x1 := fun {x y : R} => br_pos (x := x) (y := y) e5
    have fq1 := fun {n : Nat} => F_spec_LoadField (n := n) hr hi hm hf0
    refine go ?_
    clear x1 fq1
    try with_reducible rfl
    refine IH hlj _ _ (by rw [hwj]; rfl) (by rw [← take_snoc hst, hv]; rfl)
  · have d1 : decide ((j : Int) < (((walkL s s.c.cap.toNat (unmk (cl s (headB s.c k)))).map iA).length : Int)) = false := nlt_map (f := iA) (Nat.le_of_not_lt hlj)
    have hall : (stL s k).take j = stL s k := List.take_of_length_le (by unfold stL; rw [List.length_map]; omega)
    rw [hall]
    refine go ?_
    try with_reducible rfl

def seenL (s : Sta) (p : Int) : List Int → Int
  | [] => 0
  | h :: l => if (decide (fldV s h 0 > 0) && decide (fldV s h 0 ≤ p)) = true then h else seenL s p l
def visL (s : Sta) (p : Int) : List Int → Int × Bool
  | [] => (0, false)
  | h :: l => if (decide (fldV s h 0 > 0) && decide (fldV s h 0 ≤ p)) = true then (fldV s h 1, true) else visL s p l
theorem seen_vis {s : Sta} {p : Int} : ∀ {l : List Int}, (∀ h ∈ l, h ≠ 0) → (seenL s p l = 0 ∧ visL s p l = (0, false)) ∨ (seenL s p l ∈ l ∧ seenL s p l ≠ 0 ∧ visL s p l = (fldV s (seenL s p l) 1, true))
  | [], _ => .inl ⟨rfl, rfl⟩
  | h :: l, hl => by
    rw [seenL, visL]
    split
    · exact .inr ⟨List.mem_cons_self, hl h List.mem_cons_self, rfl⟩
    · rcases seen_vis (l := l) (s := s) (p := p) (fun x hx => hl x (List.mem_cons_of_mem _ hx)) with ⟨a, b⟩ | ⟨a, b, c⟩
      · exact .inl ⟨a, b⟩
      · exact .inr ⟨List.mem_cons_of_mem _ a, b, c⟩
theorem node_ne {c : Cf} {h : Int} (hn : nodeB c h = true) : h ≠ 0 := by
  rintro rfl
  have := idx_in hn
  revert this
  unfold idxB
  omega
theorem F_impl_seen {n : Nat} {s : Sta} {k : Nat} {p : Int} (hs : staB s = true) (hr : s.room) (hi : s.i64) (hk : k < s.c.keys.toNat) : callP cfg (n+6) 60 [.pv (staA s), .int .i64 (k : Int), .int .i64 p] = some ⟨.int .i64 (seenL s p (listV s k)), []⟩ := by
  rw [callP_succ]
  obtain ⟨hc, m1, m2, m3, _⟩ := sta_facts hs
  have hb := isCf_bd hc
  have hL := walk_len (s := s) s.c.cap.toNat (h := unmk (cl s (headB s.c k)))
  have fq1 := fun {n : Nat} => F_impl_listOf (n := n) hs hr hi hk
  refine go ?_
  clear fq1
  refine (evLoop_gen (fun e (j : Nat) => e.set 14 (.int .i64 (j : Int))) (fun h _ => h) (fun j => some ⟨.int .i64 (seenL s p ((listV s k).drop j)), []⟩) (fun j => j ≤ (listV s k).length) (fun j => (listV s k).length - j) 0 rfl (Nat.zero_le _) (by show _ - _ < 18446744073709551616; unfold listV; omega) ?_).trans rfl
  intro j f hj IH
  simp only at hj ⊢
  by_cases hlj : j < (listV s k).length
  · have d1 : decide ((j : Int) < (((walkL s s.c.cap.toNat (unmk (cl s (headB s.c k)))).map iA).length : Int)) = true := lt_map (f := iA) hlj
    have d2 := nonneg j
    have r1 : ((walkL s s.c.cap.toNat (unmk (cl s (headB s.c k)))).map iA)[j]? = some (iA ((listV s k).getD j default)) := map_get (f := iA) hlj
    have hwj := wrapS (k := j) (by unfold listV at hlj; omega)
    obtain ⟨hm, hcu⟩ := list_i64 hs hi hk _ (getD_mem hlj)
    have hn := cur_node hcu
    have hf0 : (0 : Int) ≤ 0 ∧ (0 : Int) ≤ 2 := by omega
    rw [drop_cons hlj, seenL]
    by_cases h1 : fldV s ((listV s k).getD j default) 0 > 0
    · have b1 : decide (fldV s ((listV s k).getD j default) 0 > 0) = true := decide_eq_true h1
      by_cases h2 : fldV s ((listV s k).getD j default) 0 ≤ p
      · have b2 : decide (fldV s ((listV s k).getD j default) 0 ≤ p) = true := decide_eq_true h2
        rw [if_pos (by rw [b1, b2]; rfl)]
        have fq1 := fun {n : Nat} => F_impl_cell (n := n) hs hm hn hf0
        refine go ?_
        clear fq1
        try with_reducible rfl
      · have b2 : decide (fldV s ((listV s k).getD j default) 0 ≤ p) = false := decide_eq_false h2
        rw [if_neg (by rw [b1, b2]; simp)]
        have fq1 := fun {n : Nat} => F_impl_cell (n := n) hs hm hn hf0
        refine go ?_
        clear fq1
        try with_reducible rfl
        exact IH (j + 1) _ _ hlj (by show _ - _ < _ - _; omega) (by rw [hwj]; rfl) rfl
    · have b1 : decide (fldV s ((listV s k).getD j default) 0 > 0) = false := decide_eq_false h1
      rw [if_neg (by rw [b1]; simp)]
      have fq1 := fun {n : Nat} => F_impl_cell (n := n) hs hm hn hf0
      refine go ?_
      clear fq1
      try with_reducible rfl
      exact IH (j + 1) _ _ hlj (by show _ - _ < _ - _; omega) (by rw [hwj]; rfl) rfl
  · have d1 : decide ((j : Int) < (((walkL s s.c.cap.toNat (unmk (cl s (headB s.c k)))).map iA).length : Int)) = false := nlt_map (f := iA) (Nat.le_of_not_lt hlj)
    rw [List.drop_eq_nil_of_le (by omega), seenL]
    refine go ?_
    try with_reducible rfl
theorem F_impl_VisibleAt {n : Nat} {s : Sta} {k : Nat} {p : Int} (hs : staB s = true) (hr : s.room) (hi : s.i64) (hk : k < s.c.keys.toNat) : callP cfg (n+14) 56 [.agg (staA s), .int .i64 (k : Int), .int .i64 p] = some ⟨.tup [.int .i64 (visL s p (listV s k)).1, .bool (visL s p (listV s k)).2], []⟩ := by
  rw [callP_succ]
  have hall : ∀ h ∈ listV s k, h ≠ 0 := fun h hh => node_ne (cur_node (list_i64 hs hi hk h hh).2)
  rcases seen_vis (s := s) (p := p) hall with ⟨a, b⟩ | ⟨a, b, c⟩
  · rw [b]
    have e1 : (seenL s p (listV s k) == 0) = true := by rw [a]; rfl
    have fq1 := fun {n : Nat} => F_impl_IsState (n := n) hr hi
    have fq2 := fun {n : Nat} {p : Int} => F_impl_seen (n := n) (p := p) hs hr hi hk
    refine go ?_
    clear fq1 fq2
    try with_reducible rfl
  · rw [c]
    obtain ⟨hm, hcu⟩ := list_i64 hs hi hk _ a
    have hn := cur_node hcu
    have hf1 : (0 : Int) ≤ 1 ∧ (1 : Int) ≤ 2 := by omega
    have e1 : (seenL s p (listV s k) == 0) = false := by simp [b]
    have fq1 := fun {n : Nat} => F_impl_IsState (n := n) hr hi
    have fq2 := fun {n : Nat} {p : Int} => F_impl_seen (n := n) (p := p) hs hr hi hk
    have fq3 := fun {n : Nat} => F_impl_cell (n := n) hs hm hn hf1
    refine go ?_
    clear fq1 fq2 fq3
    try with_reducible rfl
theorem F_spec_VisibleAt {n : Nat} {s : Sta} {k : Nat} {p : Int} (hs : staB s = true) (hr : s.room) (hi : s.i64) (hk : k < s.c.keys.toNat) : callP cfg (n+11) 54 [.agg (staA s), .int .i64 (k : Int), .int .i64 p] = some ⟨.tup [.int .i64 (visL s p (listV s k)).1, .bool (visL s p (listV s k)).2], []⟩ := by
  rw [callP_succ]
  obtain ⟨hc, m1, m2, m3, _⟩ := sta_facts hs
  have hb := isCf_bd hc
  have hL := walk_len (s := s) s.c.cap.toNat (h := unmk (cl s (headB s.c k)))
  have fq1 := fun {n : Nat} => F_spec_ListOf (n := n) hs hr hi hk
  have fq2 := fun {n : Nat} => F_spec_StampsOf (n := n) hs hr hi hk
  refine go ?_
  clear fq1 fq2
  refine (evLoop_gen (fun e (j : Nat) => e.set 10 (.int .i64 (j : Int))) (fun h _ => h) (fun j => some ⟨.tup [.int .i64 (visL s p ((listV s k).drop j)).1, .bool (visL s p ((listV s k).drop j)).2], []⟩) (fun j => j ≤ (listV s k).length) (fun j => (listV s k).length - j) 0 rfl (Nat.zero_le _) (by show _ - _ < 18446744073709551616; unfold listV; omega) ?_).trans rfl
  intro j f hj IH
  simp only at hj ⊢
  have hst : (stL s k).length = (listV s k).length := by unfold stL; rw [List.length_map]
  by_cases hlj : j < (listV s k).length
  · have d1 : decide ((j : Int) < (((walkL s s.c.cap.toNat (unmk (cl s (headB s.c k)))).map iA).length : Int)) = true := lt_map (f := iA) hlj
    have d2 := nonneg j
    have d3 : decide ((j : Int) < (((stL s k).map iA).length : Int)) = true := lt_map (f := iA) (by omega)
    have r1 : ((walkL s s.c.cap.toNat (unmk (cl s (headB s.c k)))).map iA)[j]? = some (iA ((listV s k).getD j default)) := map_get (f := iA) hlj
    have r2 : ((stL s k).map iA)[j]? = some (iA (fldV s ((listV s k).getD j default) 0)) := by rw [map_get (f := iA) (by omega : j < (stL s k).length)]; unfold stL; rw [getD_map hlj]
    have hwj := wrapS (k := j) (by unfold listV at hlj; omega)
    obtain ⟨hm, hcu⟩ := list_i64 hs hi hk _ (getD_mem hlj)
    have hn := cur_node hcu
    have hf1 : (0 : Int) ≤ 1 ∧ (1 : Int) ≤ 2 := by omega
    have hl : loadV s ((listV s k).getD j default) 1 = fldV s ((listV s k).getD j default) 1 := by unfold loadV; rw [if_pos ⟨hs, hcu⟩]
    rw [drop_cons hlj, visL]
    by_cases h1 : fldV s ((listV s k).getD j default) 0 > 0
    · have b1 : decide (fldV s ((listV s k).getD j default) 0 > 0) = true := decide_eq_true h1
      by_cases h2 : fldV s ((listV s k).getD j default) 0 ≤ p
      · have b2 : decide (fldV s ((listV s k).getD j default) 0 ≤ p) = true := decide_eq_true h2
        rw [if_pos (by rw [b1, b2]; rfl), ← hl]
        have fq1 := fun {n : Nat} => F_spec_LoadField (n := n) hr hi hm hf1
        refine go ?_
        clear fq1
        try with_reducible rfl
      · have b2 : decide (fldV s ((listV s k).getD j default) 0 ≤ p) = false := decide_eq_false h2
        rw [if_neg (by rw [b1, b2]; simp)]
        refine go ?_
        try with_reducible rfl
        exact IH (j + 1) _ _ hlj (by show _ - _ < _ - _; omega) (by rw [hwj]; rfl) rfl
    · have b1 : decide (fldV s ((listV s k).getD j default) 0 > 0) = false := decide_eq_false h1
      rw [if_neg (by rw [b1]; simp)]
      refine go ?_
      try with_reducible rfl
      exact IH (j + 1) _ _ hlj (by show _ - _ < _ - _; omega) (by rw [hwj]; rfl) rfl
  · have d1 : decide ((j : Int) < (((walkL s s.c.cap.toNat (unmk (cl s (headB s.c k)))).map iA).length : Int)) = false := nlt_map (f := iA) (Nat.le_of_not_lt hlj)
    rw [List.drop_eq_nil_of_le (by omega), visL]
    refine go ?_
    try with_reducible rfl
end Go.Proofs.Ytpmlbimlndphhaa.A
namespace Go.Proofs.Ytpmlbimlndphhaa.A
open Go Go.Abs
set_option maxRecDepth 100000
noncomputable def hasT (s : Sta) (t : Int) : Bool := staB s && (decide (0 ≤ t) && decide (t ≤ (s.ths.length : Int) - 1))
noncomputable def snAt (s : Sta) (p : Int) (k : Nat) : Int := if (visL s p (listV s k)).2 = true then (visL s p (listV s k)).1 else -1
noncomputable def snL (s : Sta) (p : Int) : List Int := (List.range s.c.keys.toNat).map (snAt s p)
noncomputable def snOf (s : Sta) (t : Int) : List Int := if hasT s t = true ∧ (s.ths.getD t.toNat default).snap ≠ 0 then snL s (s.ths.getD t.toNat default).snap else []
theorem snL_len {s : Sta} {p : Int} : (snL s p).length = s.c.keys.toNat := by unfold snL; simp
theorem snL_get {s : Sta} {p : Int} {k : Nat} (h : k < s.c.keys.toNat) : (snL s p).getD k default = snAt s p k := by
  unfold snL
  simp [List.getD_eq_getElem?_getD, h]
theorem hasT_at {s : Sta} {t : Int} (h : hasT s t = true) : staB s = true ∧ ∃ i : Nat, t = (i : Int) ∧ i < s.ths.length := by
  unfold hasT at h
  simp only [Bool.and_eq_true, decide_eq_true_eq] at h
  exact ⟨h.1, t.toNat, by omega, by omega⟩
theorem snOf_len {s : Sta} {t : Int} (hr : s.room) : (snOf s t).length ≤ 1048576 := by
  unfold snOf
  split
  · rename_i h
    rw [snL_len]
    have hb := isCf_bd (sta_facts (hasT_at h.1).1).1
    omega
  · exact Nat.zero_le _
theorem F_impl_hasThread {n : Nat} {s : Sta} {t : Int} (hr : s.room) (hi : s.i64) : callP cfg (n+14) 55 [.agg (staA s), .int .i64 t] = some ⟨.bool (hasT s t), []⟩ := by
  rw [callP_succ]
  have hl := hr.2.2.1
  have hw1 : IntKind.i64.wrap ((s.ths.length : Int) - 1) = (s.ths.length : Int) - 1 := wrapI (by omega) (by omega)
  unfold hasT
  by_cases hs : staB s = true
  · rw [hs]
    rw [← hw1, List.length_map (f := thA) |>.symm]
    have fq1 := fun {n : Nat} => F_impl_IsState (n := n) hr hi
    have fq2 := fun {n : Nat} {a : Int} {b : Int} {c : Int} => F_impl_in (n := n) (a := a) (b := b) (c := c)
    refine go ?_
    clear fq1 fq2
    try with_reducible rfl
    try simp
  · replace hs : staB s = false := by simpa using hs
    rw [hs]
    have fq1 := fun {n : Nat} => F_impl_IsState (n := n) hr hi
    have fq2 := fun {n : Nat} {a : Int} {b : Int} {c : Int} => F_impl_in (n := n) (a := a) (b := b) (c := c)
    refine go ?_
    clear fq1 fq2
    try with_reducible rfl
    try rfl
theorem F_impl_SnapshotOf {n : Nat} {s : Sta} {t : Int} (hr : s.room) (hi : s.i64) : callP cfg (n+15) 32 [.agg (staA s), .int .i64 t] = some ⟨intsA (snOf s t), []⟩ := by
  rw [callP_succ]
  have hl := hr.2.2.1
  unfold snOf
  by_cases hT : hasT s t = true
  · obtain ⟨hs, i, rfl, hli⟩ := hasT_at hT
    obtain ⟨hc, m1, m2, m3, _⟩ := sta_facts hs
    have hb := isCf_bd hc
    have d1 := lt_map (f := thA) hli
    have d2 := nonneg i
    have r1 := map_get (f := thA) hli
    have hw1 : IntKind.i64.wrap ((s.ths.length : Int) - 1) = (s.ths.length : Int) - 1 := wrapI (by omega) (by omega)
    have en : ((i : Int)).toNat = i := by omega
    have g1 : (decide (0 ≤ (i : Int)) && decide ((i : Int) ≤ IntKind.i64.wrap (((s.ths.map thA).length : Int) - 1))) = true := by rw [List.length_map, hw1, decide_eq_true (by omega : (0 : Int) ≤ i), decide_eq_true (by omega : (i : Int) ≤ (s.ths.length : Int) - 1)]; rfl
    rw [en]
    by_cases h0 : (s.ths.getD i default).snap = 0
    · rw [if_neg (by rw [h0]; simp)]
      have z1 : ((s.ths.getD i default).snap == 0) = true := by rw [h0]; rfl
      have z2 : ((s.ths.getD i default).snap != 0) = false := by rw [h0]; rfl
      have fq1 := fun {n : Nat} {t : Int} => F_impl_hasThread (n := n) (t := t) hr hi
      refine go ?_
      clear fq1
      try with_reducible rfl
      try rfl
    · rw [if_pos ⟨hT, h0⟩]
      have z1 : ((s.ths.getD i default).snap == 0) = false := by rw [beq_eq_false_iff_ne]; exact h0
      have z2 : ((s.ths.getD i default).snap != 0) = true := by rw [bne_iff_ne]; exact h0
      have fq1 := fun {n : Nat} {t : Int} => F_impl_hasThread (n := n) (t := t) hr hi
      refine go ?_
      clear fq1
      refine (evLoop_run (fun e j => e.set 26 (.int .i64 (j : Int))) (fun h j => h.set 3 (some ⟨false, false, false, 1, ((snL s (s.ths.getD i default).snap).take j).map iA⟩)) (fun _ => some ⟨intsA (snL s (s.ths.getD i default).snap), []⟩) s.c.keys.toNat (by show _ < 18446744073709551616; omega) rfl ?_).trans rfl
      intro j f hj IH
      by_cases hlj : j < s.c.keys.toNat
      · have d3 : decide ((j : Int) < s.c.keys) = true := decide_eq_true (by omega)
        have d4 := nonneg j
        have hwj := wrapS (k := j) (by omega)
        have e5 : decide (((((snL s (s.ths.getD i default).snap).take j).map iA).length + 1) * 8 ≤ roomB) = true := decide_eq_true (by rw [List.length_map, List.length_take]; show _ ≤ 140737488355328; omega)
        have hst : j < (snL s (s.ths.getD i default).snap).length := by rw [snL_len]; exact hlj
        have hv := snL_get (p := (s.ths.getD i default).snap) hlj
        by_cases hvv : (visL s (s.ths.getD i default).snap (listV s j)).2 = true
        · have ha : snAt s (s.ths.getD i default).snap j = (visL s (s.ths.getD i default).snap (listV s j)).1 := by unfold snAt; rw [if_pos hvv]
          have n1 : (!(visL s (s.ths.getD i default).snap (listV s j)).2) = false := by rw [hvv]; rfl
          rw [ha] at hv
          have x1 := fun {x y : R} => br_pos (x := x) (y := y) e5
          have fq1 := fun {n : Nat} {p : Int} => F_impl_VisibleAt (n := n) (p := p) hs hr hi hlj
          refine go ?_
          clear x1 fq1
          try with_reducible rfl
          refine IH hlj _ _ (by rw [hwj]; rfl) (by rw [← take_snoc hst, hv]; rfl)
        · replace hvv : (visL s (s.ths.getD i default).snap (listV s j)).2 = false := by simpa using hvv
          have ha : snAt s (s.ths.getD i default).snap j = -1 := by unfold snAt; rw [if_neg (by rw [hvv]; simp)]
          have n1 : (!(visL s (s.ths.getD i default).snap (listV s j)).2) = true := by rw [hvv]; rfl
          rw [ha] at hv
          have x1 := fun {x y : R} => br_pos (x := x) (y := y) e5
          have fq1 := fun {n : Nat} {p : Int} => F_impl_VisibleAt (n := n) (p := p) hs hr hi hlj
          refine go ?_
          clear x1 fq1
          try with_reducible rfl
          refine IH hlj _ _ (by rw [hwj]; rfl) (by rw [← take_snoc hst, hv]; rfl)
      · have d3 : decide ((j : Int) < s.c.keys) = false := decide_eq_false (by omega)
        have hall : (snL s (s.ths.getD i default).snap).take j = snL s (s.ths.getD i default).snap := List.take_of_length_le (by rw [snL_len]; omega)
        rw [hall]
        refine go ?_
        try with_reducible rfl
  · rw [if_neg (fun h => hT h.1)]
    replace hT : hasT s t = false := by simpa using hT
    have fq1 := fun {n : Nat} {t : Int} => F_impl_hasThread (n := n) (t := t) hr hi
    refine go ?_
    clear fq1
    try with_reducible rfl
    try rfl
theorem F_spec_SnapshotOf {n : Nat} {s : Sta} {t : Int} (hr : s.room) (hi : s.i64) : callP cfg (n+12) 31 [.agg (staA s), .int .i64 t] = some ⟨intsA (snOf s t), []⟩ := by
  rw [callP_succ]
  have hl := hr.2.2.1
  unfold snOf
  by_cases hT : hasT s t = true
  · obtain ⟨hs, i, rfl, hli⟩ := hasT_at hT
    obtain ⟨hc, m1, m2, m3, _⟩ := sta_facts hs
    have hb := isCf_bd hc
    have d1 := lt_map (f := thA) hli
    have d2 := nonneg i
    have r1 := map_get (f := thA) hli
    have hw1 : IntKind.i64.wrap ((s.ths.length : Int) - 1) = (s.ths.length : Int) - 1 := wrapI (by omega) (by omega)
    have en : ((i : Int)).toNat = i := by omega
    have g1 : (decide (0 ≤ (i : Int)) && decide ((i : Int) ≤ IntKind.i64.wrap (((s.ths.map thA).length : Int) - 1))) = true := by rw [List.length_map, hw1, decide_eq_true (by omega : (0 : Int) ≤ i), decide_eq_true (by omega : (i : Int) ≤ (s.ths.length : Int) - 1)]; rfl
    rw [en]
    by_cases h0 : (s.ths.getD i default).snap = 0
    · rw [if_neg (by rw [h0]; simp)]
      have z1 : ((s.ths.getD i default).snap == 0) = true := by rw [h0]; rfl
      have z2 : ((s.ths.getD i default).snap != 0) = false := by rw [h0]; rfl
      have fq1 := fun {n : Nat} => F_spec_IsState (n := n) hr hi
      have fq2 := fun {n : Nat} {a : Int} {b : Int} {c : Int} => F_spec_l1In (n := n) (a := a) (b := b) (c := c)
      refine go ?_
      clear fq1 fq2
      try with_reducible rfl
      try rfl
    · rw [if_pos ⟨hT, h0⟩]
      have z1 : ((s.ths.getD i default).snap == 0) = false := by rw [beq_eq_false_iff_ne]; exact h0
      have z2 : ((s.ths.getD i default).snap != 0) = true := by rw [bne_iff_ne]; exact h0
      have fq1 := fun {n : Nat} => F_spec_IsState (n := n) hr hi
      have fq2 := fun {n : Nat} {a : Int} {b : Int} {c : Int} => F_spec_l1In (n := n) (a := a) (b := b) (c := c)
      refine go ?_
      clear fq1 fq2
      refine (evLoop_run (fun e j => e.set 6 (.int .i64 (j : Int))) (fun h j => h.set 3 (some ⟨false, false, false, 1, ((snL s (s.ths.getD i default).snap).take j).map iA⟩)) (fun _ => some ⟨intsA (snL s (s.ths.getD i default).snap), []⟩) s.c.keys.toNat (by show _ < 18446744073709551616; omega) rfl ?_).trans rfl
      intro j f hj IH
      by_cases hlj : j < s.c.keys.toNat
      · have d3 : decide ((j : Int) < s.c.keys) = true := decide_eq_true (by omega)
        have d4 := nonneg j
        have hwj := wrapS (k := j) (by omega)
        have e5 : decide (((((snL s (s.ths.getD i default).snap).take j).map iA).length + 1) * 8 ≤ roomB) = true := decide_eq_true (by rw [List.length_map, List.length_take]; show _ ≤ 140737488355328; omega)
        have hst : j < (snL s (s.ths.getD i default).snap).length := by rw [snL_len]; exact hlj
        have hv := snL_get (p := (s.ths.getD i default).snap) hlj
        by_cases hvv : (visL s (s.ths.getD i default).snap (listV s j)).2 = true
        · have ha : snAt s (s.ths.getD i default).snap j = (visL s (s.ths.getD i default).snap (listV s j)).1 := by unfold snAt; rw [if_pos hvv]
          have n1 : (!(visL s (s.ths.getD i default).snap (listV s j)).2) = false := by rw [hvv]; rfl
          rw [ha] at hv
          have x1 := fun {x y : R} => br_pos (x := x) (y := y) e5
          have fq1 := fun {n : Nat} {p : Int} => F_spec_VisibleAt (n := n) (p := p) hs hr hi hlj
          refine go ?_
          clear x1 fq1
          try with_reducible rfl
          refine IH hlj _ _ (by rw [hwj]; rfl) (by rw [← take_snoc hst, hv]; rfl)
        · replace hvv : (visL s (s.ths.getD i default).snap (listV s j)).2 = false := by simpa using hvv
          have ha : snAt s (s.ths.getD i default).snap j = -1 := by unfold snAt; rw [if_neg (by rw [hvv]; simp)]
          have n1 : (!(visL s (s.ths.getD i default).snap (listV s j)).2) = true := by rw [hvv]; rfl
          rw [ha] at hv
          have x1 := fun {x y : R} => br_pos (x := x) (y := y) e5
          have fq1 := fun {n : Nat} {p : Int} => F_spec_VisibleAt (n := n) (p := p) hs hr hi hlj
          refine go ?_
          clear x1 fq1
          try with_reducible rfl
          refine IH hlj _ _ (by rw [hwj]; rfl) (by rw [← take_snoc hst, hv]; rfl)
      · have d3 : decide ((j : Int) < s.c.keys) = false := decide_eq_false (by omega)
        have hall : (snL s (s.ths.getD i default).snap).take j = snL s (s.ths.getD i default).snap := List.take_of_length_le (by rw [snL_len]; omega)
        rw [hall]
        refine go ?_
        try with_reducible rfl
  · rw [if_neg (fun h => hT h.1)]
    replace hT : hasT s t = false := by simpa using hT
    have hw1 : IntKind.i64.wrap ((s.ths.length : Int) - 1) = (s.ths.length : Int) - 1 := wrapI (by omega) (by omega)
    unfold hasT at hT
    by_cases hs : staB s = true
    · rw [hs, ← hw1, List.length_map (f := thA) |>.symm] at hT
      replace hT : (decide (0 ≤ t) && decide (t ≤ IntKind.i64.wrap (((s.ths.map thA).length : Int) - 1))) = false := by simpa using hT
      have fq1 := fun {n : Nat} => F_spec_IsState (n := n) hr hi
      have fq2 := fun {n : Nat} {a : Int} {b : Int} {c : Int} => F_spec_l1In (n := n) (a := a) (b := b) (c := c)
      refine go ?_
      clear fq1 fq2
      try with_reducible rfl
      try rfl
    · replace hs : staB s = false := by simpa using hs
      have fq1 := fun {n : Nat} => F_spec_IsState (n := n) hr hi
      have fq2 := fun {n : Nat} {a : Int} {b : Int} {c : Int} => F_spec_l1In (n := n) (a := a) (b := b) (c := c)
      refine go ?_
      clear fq1 fq2
      try with_reducible rfl
      try rfl
end Go.Proofs.Ytpmlbimlndphhaa.A
namespace Go.Proofs.Ytpmlbimlndphhaa.A
open Go Go.Abs
set_option maxRecDepth 100000
set_option maxHeartbeats 16000000 in
noncomputable def MA {n : Nat}{s : Sta} {t : Int}(hs : s.len) (hi : s.i64) : (P1 : Prop) ×' (Hold P1 → callP cfg (n+16) 9 [.agg (staA s), .int .i64 t] = some ⟨.bool true, []⟩) := by
  apply PSigma.mk
  intro hP1
  skip
  rw [callP_succ]
  by_cases hb : szSta s 1048576 < 0
  · have e0 : decide (szSta s 1048576 < 0) = true := by simpa using hb
    have fq1 := fun {n : Nat} => F_laws_szState (n := n) (b := 1048576) hs (by decide) (by decide)
    refine go ?_
    clear fq1
    try with_reducible rfl
  · have e0 : decide (szSta s 1048576 < 0) = false := by simpa using hb
    have hr := szSta_room (s := s) (by omega)
    have hsn : (snOf s t).length ≤ maxLen := Nat.le_trans (snOf_len hr) (by decide)
    have e3 : (!decide (snOf s t = snOf s t)) = false := by simp
    have e2 : (!decide (s = s)) = false := by simp
    have fq1 := fun {n : Nat} => F_laws_szState (n := n) (b := 1048576) hs (by decide) (by decide)
    have fq2 := fun {n : Nat} => F_laws_toState (n := n) hr
    have fq3 := fun {n : Nat} {b : Sta} => F_laws_eqState (n := n) (b := b) hs
    have fq4 := fun {n : Nat} {t : Int} => F_spec_SnapshotOf (n := n) (t := t) hr hi
    have fq5 := fun {n : Nat} {t : Int} => F_impl_SnapshotOf (n := n) (t := t) hr hi
    have fq6 := fun {n : Nat} {ys : List Int} => F_laws_eqIntS (n := n) (ys := ys) hsn
    refine goD ?_
    clear fq1 fq2 fq3 fq4 fq5 fq6
    try with_reducible rfl
    clear hsn e3 e2 e0 hb
    revert hr
    exact hP1.h
end Go.Proofs.Ytpmlbimlndphhaa.A
namespace Go.Proofs.Ytpmlbimlndphhaa.A
open Go Go.Abs
set_option maxRecDepth 100000
set_option maxHeartbeats 16000000 in
noncomputable def MB {n : Nat}{s : Sta} {t : Int}(hs : s.len) (hi : s.i64) : (P1 : Prop) ×' (Hold P1 → (MA (n := n) (t := t) hs hi).1) := by
  apply PSigma.mk
  intro hP1
  intro hr
  have hn : s.ths.length = s.ths.length := rfl
  have hr' := hr
  have hk0 : (0 : Int) ≤ 1 := by decide
  have hk1 : True := trivial
  have hnl := hr.2.2.1
  refine (evLoop_gen (fun e (x : Nat × Int × Sta) => (e.set 5 (.int .i64 (x.1 : Int))).set 1 (.int .i64 x.2.1)) (fun h x => h.set 5 (some ⟨false, false, true, 13, [staA x.2.2]⟩)) (fun _ => some ⟨.bool true, []⟩) (fun x => x.2.2.room ∧ x.2.2.ths.length = s.ths.length ∧ x.1 ≤ x.2.2.cells.length ∧ 0 ≤ x.2.1 ∧ x.2.1 ≤ 1 + (x.1 : Int)) (fun x => x.2.2.cells.length - x.1) (0, 1, s) rfl ⟨hr', hn, Nat.zero_le _, hk0, by show 1 ≤ 1 + ((0 : Nat) : Int); omega⟩ (by have := hr'; unfold Sta.room at this; show (s : Sta).cells.length - 0 < 18446744073709551616; omega) ?_).trans rfl
  clear hk1
  rintro ⟨j, k, s'⟩ IHAf ⟨hr', hn, hj, hk0, hk1⟩ IHA
  simp only at hr' hn hj hk0 hk1
  obtain ⟨g1, g2, g3, g4⟩ := hr'
  by_cases hlj : j < s'.cells.length
  · have d1 := lt_map (f := iA) hlj
    have d2 := nonneg j
    have r2 := map_get (f := iA) hlj
    have hwj := wrapS (k := j) (by omega)
    have w1 : IntKind.i64.wrap (k + 1) = k + 1 := by rw [wrapI (by omega) (by omega)]; first | done | omega
    have st1 := r2
    refine go ?_
    clear st1
    try with_reducible rfl
    refine IHA (j + 1, IntKind.i64.wrap (k + 1), { s' with cells := s'.cells.set j k }) _ _ ⟨⟨by first | exact g1 | (show (s'.cells.set j k).length ≤ _; rw [List.length_set]; exact g1), by first | exact g2 | (show (s'.cells.set j k).length ≤ _; rw [List.length_set]; exact g2), g3, g4⟩, hn, by show j + 1 ≤ (s'.cells.set j k).length; rw [List.length_set]; exact hlj, by show 0 ≤ IntKind.i64.wrap (k + 1); rw [w1]; omega, by show IntKind.i64.wrap (k + 1) ≤ 1 + ((j + 1 : Nat) : Int); rw [w1]; omega⟩ (by show (s'.cells.set j k).length - (j + 1) < s'.cells.length - j; rw [List.length_set]; omega) (by rw [hwj]; rfl) (by rw [staA_cells]; first | done | rfl)
  · have d1 := nlt_map (f := iA) (Nat.le_of_not_lt hlj)
    have hj1 : j ≤ 1048576 := by omega
    have hr' : s'.room := ⟨g1, g2, g3, g4⟩
    replace hk1 : k ≤ 1 + 1048576 := by omega
    refine go ?_
    clear hlj d1 IHA hj g1 g2 g3 g4
    clear hnl
    revert hk1
    revert hk0
    revert hn
    revert hr'
    revert hj1
    revert s'
    revert k
    revert j
    revert hr
    exact hP1.h
end Go.Proofs.Ytpmlbimlndphhaa.A
namespace Go.Proofs.Ytpmlbimlndphhaa.A
open Go Go.Abs
set_option maxRecDepth 100000
set_option maxHeartbeats 16000000 in
noncomputable def MC {n : Nat}{s : Sta} {t : Int}(hs : s.len) (hi : s.i64) : (P1 : Prop) ×' (Hold P1 → (MB (n := n) (t := t) hs hi).1) := by
  apply PSigma.mk
  intro hP1
  intro hr j0 k0 s0 hj0 hr' hn hk0 hk1
  have hnl := hr.2.2.1
  refine (evLoop_gen (fun e (x : Nat × Int × Sta) => (e.set 5 (.int .i64 (x.1 : Int))).set 1 (.int .i64 x.2.1)) (fun h x => h.set 5 (some ⟨false, false, true, 13, [staA x.2.2]⟩)) (fun _ => some ⟨.bool true, []⟩) (fun x => x.2.2.room ∧ x.2.2.ths.length = s.ths.length ∧ x.1 ≤ x.2.2.gens.length ∧ 0 ≤ x.2.1 ∧ x.2.1 ≤ 1048577 + (x.1 : Int)) (fun x => x.2.2.gens.length - x.1) (0, k0, s0) rfl ⟨hr', hn, Nat.zero_le _, hk0, by show k0 ≤ 1048577 + ((0 : Nat) : Int); omega⟩ (by have := hr'; unfold Sta.room at this; show (s0 : Sta).gens.length - 0 < 18446744073709551616; omega) ?_).trans rfl
  clear hk1 hk0 hn hr'
  rintro ⟨j, k, s'⟩ IHBf ⟨hr', hn, hj, hk0, hk1⟩ IHB
  simp only at hr' hn hj hk0 hk1
  obtain ⟨g1, g2, g3, g4⟩ := hr'
  by_cases hlj : j < s'.gens.length
  · have d1 := lt_map (f := iA) hlj
    have d2 := nonneg j
    have r2 := map_get (f := iA) hlj
    have hwj := wrapS (k := j) (by omega)
    have w1 : IntKind.i64.wrap (k + 1) = k + 1 := by rw [wrapI (by omega) (by omega)]; first | done | omega
    have st1 := r2
    refine go ?_
    clear st1
    try with_reducible rfl
    refine IHB (j + 1, IntKind.i64.wrap (k + 1), { s' with gens := s'.gens.set j k }) _ _ ⟨⟨by first | exact g1 | (show (s'.gens.set j k).length ≤ _; rw [List.length_set]; exact g1), by first | exact g2 | (show (s'.gens.set j k).length ≤ _; rw [List.length_set]; exact g2), g3, g4⟩, hn, by show j + 1 ≤ (s'.gens.set j k).length; rw [List.length_set]; exact hlj, by show 0 ≤ IntKind.i64.wrap (k + 1); rw [w1]; omega, by show IntKind.i64.wrap (k + 1) ≤ 1048577 + ((j + 1 : Nat) : Int); rw [w1]; omega⟩ (by show (s'.gens.set j k).length - (j + 1) < s'.gens.length - j; rw [List.length_set]; omega) (by rw [hwj]; rfl) (by rw [staA_gens]; first | done | rfl)
  · have d1 := nlt_map (f := iA) (Nat.le_of_not_lt hlj)
    have hj1 : j ≤ 1048576 := by omega
    have hr' : s'.room := ⟨g1, g2, g3, g4⟩
    replace hk1 : k ≤ 1048577 + 1048576 := by omega
    refine go ?_
    clear hlj d1 IHB hj g1 g2 g3 g4
    clear hnl hj0
    revert hk1
    revert hk0
    revert hn
    revert hr'
    revert hj1
    revert s'
    revert k
    revert j
    revert s0
    revert k0
    revert j0
    revert hr
    exact hP1.h
end Go.Proofs.Ytpmlbimlndphhaa.A
