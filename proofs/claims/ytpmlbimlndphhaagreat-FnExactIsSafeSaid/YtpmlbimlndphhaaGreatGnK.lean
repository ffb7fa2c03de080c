/- What the functions of the states answer, part 10: no condition. -/
import Derived.Test.YtpmlbimlndphhaaGreatGnJ
set_option linter.unusedVariables false
set_option linter.unusedSimpArgs false
namespace Go.Proofs.YtpmlbimlndphhaaGreat.A
open Go Go.Abs
set_option maxRecDepth 100000
def stL (s : Sta) (k : Nat) : List Int := (listV s k).map fun h => fldV s h 0
def badB (l : List Int) (i : Nat) : Bool := (l.getD i default == 0) || (decide (l.getD i default > l.getD (i - 1) default) && (l.getD (i - 1) default != 0))
def ordB (l : List Int) : Bool := !((List.range l.length).drop 1).any (badB l)
noncomputable def safeV (s : Sta) : Bool := (staB s && (ccV s 6 == 0)) && ((s.faults == 0) && (List.range s.c.keys.toNat).all fun k => ordB (stL s k))
theorem pos_ne {x : Int} (h : 0 ≤ x) : decide (x > 0) = (x != 0) := by
  by_cases e : x = 0
  · subst e; rfl
  · have h1 : x > 0 := by omega
    rw [decide_eq_true h1, bne_t e]
theorem take_snoc {f : Int → List AV} {l : List Int} {k : Nat} (h : k < l.length) : (l.take k).map f ++ [f (l.getD k default)] = (l.take (k + 1)).map f := by
  rw [List.take_succ_eq_append_getElem h, List.map_append]
  congr 1
  simp [List.getD_eq_getElem?_getD, h]
theorem getD_map {f : Int → Int} {l : List Int} {k : Nat} (h : k < l.length) : (l.map f).getD k default = f (l.getD k default) := by
  simp [List.getD_eq_getElem?_getD, h]
theorem fld0_bd {s : Sta} {h : Int} (hs : staB s = true) (hn : nodeB s.c h = true) : 0 ≤ fldV s h 0 ∧ fldV s h 0 ≤ 99 := by
  obtain ⟨_, _, _, _, _, _, hno, _⟩ := sta_facts hs
  unfold nodesB at hno
  have hx := idx_in hn
  have := List.all_eq_true.1 hno (idxB h).toNat (List.mem_range.2 (by omega))
  unfold nodeOK at this
  simp only [Bool.and_eq_true] at this
  have e : (((idxB h).toNat : Nat) : Int) = idxB h := by omega
  rw [e] at this
  unfold fldV
  have h2 := this
  simp only [inB, Bool.and_eq_true, decide_eq_true_eq] at h2
  omega
theorem stL_bd {s : Sta} {k i : Nat} (hs : staB s = true) (hi : s.i64) (hk : k < s.c.keys.toNat) (h : i < (stL s k).length) : 0 ≤ (stL s k).getD i default ∧ (stL s k).getD i default ≤ 99 := by
  unfold stL at h ⊢
  rw [List.length_map] at h
  rw [getD_map h]
  exact fld0_bd hs (cur_node (list_i64 hs hi hk _ (getD_mem h)).2)
theorem F_impl_ListOf {n : Nat} {s : Sta} {k : Nat} (hs : staB s = true) (hr : s.room) (hi : s.i64) (hk : k < s.c.keys.toNat) : callP cfg (n+14) 133 [.agg (staA s), .int .i64 (k : Int)] = some ⟨intsA (listV s k), []⟩ := by
  rw [callP_succ]
  have fq1 := fun {n : Nat} => F_impl_IsState (n := n) hr hi
  have fq2 := fun {n : Nat} => F_impl_listOf (n := n) hs hr hi hk
  refine go ?_
  clear fq1 fq2
  try with_reducible rfl
  try rfl
theorem F_impl_StampsOf {n : Nat} {s : Sta} {k : Nat} (hs : staB s = true) (hr : s.room) (hi : s.i64) (hk : k < s.c.keys.toNat) : callP cfg (n+15) 78 [.agg (staA s), .int .i64 (k : Int)] = some ⟨intsA (stL s k), []⟩ := by
  rw [callP_succ]
  obtain ⟨hc, m1, m2, m3, _⟩ := sta_facts hs
  have hb := isCf_bd hc
  have hL := walk_len (s := s) s.c.cap.toNat (h := unmk (cl s (headB s.c k)))
  have fq1 := fun {n : Nat} => F_impl_ListOf (n := n) hs hr hi hk
  refine go ?_
  clear fq1
  refine (evLoop_run (fun e j => e.set 13 (.int .i64 (j : Int))) (fun h j => h.set 3 (some ⟨false, false, false, 1, ((stL s k).take j).map iA⟩)) (fun _ => some ⟨intsA (stL s k), []⟩) (listV s k).length (by show _ < 18446744073709551616; unfold listV; omega) rfl ?_).trans rfl
  intro j f hj IH
  by_cases hlj : j < (listV s k).length
  · have d1 : decide ((j : Int) < (((listV s k).map iA).length : Int)) = true := lt_map (f := iA) hlj
    have d2 := nonneg j
    have r1 : ((listV s k).map iA)[j]? = some (iA ((listV s k).getD j default)) := map_get (f := iA) hlj
    have hwj := wrapS (k := j) (by unfold listV at hlj; omega)
    obtain ⟨hm, hcu⟩ := list_i64 hs hi hk _ (getD_mem hlj)
    have hn := cur_node hcu
    have x5 : decide ((((stL s k).take j).map iA).length + 1 ≤ 17592186044416) = true := by
      refine decide_eq_true ?_
      rw [List.length_map, List.length_take]
      unfold listV at hlj
      omega
    have e5 : decide (((((stL s k).take j).map iA).length + 1) * 8 ≤ roomB) = true := decide_eq_true (by have := of_decide_eq_true x5; show _ ≤ 140737488355328; omega)
    clear x5
    have hst : j < (stL s k).length := by unfold stL; rw [List.length_map]; exact hlj
    have hv : (stL s k).getD j default = fldV s ((listV s k).getD j default) 0 := getD_map hlj
    have hf0 : (0 : Int) ≤ 0 ∧ (0 : Int) ≤ 2 := by omega
    have x1 := fun {x y : R} => br_pos (x := x) (y := y) e5
    have fq1 := fun {n : Nat} => F_impl_cell (n := n) hs hm hn hf0
    refine go ?_
    clear x1 fq1
    try with_reducible rfl
    refine IH hlj _ _ (by rw [hwj]; rfl) (by rw [← take_snoc hst, hv]; rfl)
  · have d1 : decide ((j : Int) < (((listV s k).map iA).length : Int)) = false := nlt_map (f := iA) (Nat.le_of_not_lt hlj)
    have hall : (stL s k).take j = stL s k := List.take_of_length_le (by unfold stL; rw [List.length_map]; omega)
    rw [hall]
    refine go ?_
    try with_reducible rfl
theorem F_spec_StampsOf {n : Nat} {s : Sta} {k : Nat} (hs : staB s = true) (hr : s.room) (hi : s.i64) (hk : k < s.c.keys.toNat) : callP cfg (n+10) 72 [.agg (staA s), .int .i64 (k : Int)] = some ⟨intsA (stL s k), []⟩ := by
  rw [callP_succ]
  obtain ⟨hc, m1, m2, m3, _⟩ := sta_facts hs
  have hb := isCf_bd hc
  have hL := walk_len (s := s) s.c.cap.toNat (h := unmk (cl s (headB s.c k)))
  have fq1 := fun {n : Nat} => F_spec_ListOf (n := n) hs hr hi hk
  refine go ?_
  clear fq1
  refine (evLoop_run (fun e j => e.set 7 (.int .i64 (j : Int))) (fun h j => h.set 3 (some ⟨false, false, false, 1, ((stL s k).take j).map iA⟩)) (fun _ => some ⟨intsA (stL s k), []⟩) (listV s k).length (by show _ < 18446744073709551616; unfold listV; omega) rfl ?_).trans rfl
  intro j f hj IH
  by_cases hlj : j < (listV s k).length
  · have d1 : decide ((j : Int) < (((walkL s s.c.cap.toNat (unmk (cl s (headB s.c k)))).map iA).length : Int)) = true := lt_map (f := iA) hlj
    have d2 := nonneg j
    have r1 : ((walkL s s.c.cap.toNat (unmk (cl s (headB s.c k)))).map iA)[j]? = some (iA ((listV s k).getD j default)) := map_get (f := iA) hlj
    have hwj := wrapS (k := j) (by unfold listV at hlj; omega)
    obtain ⟨hm, hcu⟩ := list_i64 hs hi hk _ (getD_mem hlj)
    have hn := cur_node hcu
    have x5 : decide ((((stL s k).take j).map iA).length + 1 ≤ 17592186044416) = true := by
      refine decide_eq_true ?_
      rw [List.length_map, List.length_take]
      unfold listV at hlj
      omega
    have e5 : decide (((((stL s k).take j).map iA).length + 1) * 8 ≤ roomB) = true := decide_eq_true (by have := of_decide_eq_true x5; show _ ≤ 140737488355328; omega)
    clear x5
    have hst : j < (stL s k).length := by unfold stL; rw [List.length_map]; exact hlj
    have hv : (stL s k).getD j default = fldV s ((listV s k).getD j default) 0 := getD_map hlj
    have hf0 : (0 : Int) ≤ 0 ∧ (0 : Int) ≤ 2 := by omega
    have hl : loadV s ((listV s k).getD j default) 0 = fldV s ((listV s k).getD j default) 0 := by unfold loadV; rw [if_pos ⟨hs, hcu⟩]
    rw [← hl] at hv
    have x1 := fun {x y : R} => br_pos (x := x) (y := y) e5
    have fq1 := fun {n : Nat} => F_spec_LoadField (n := n) hr hi hm hf0
    refine go ?_
    clear x1 fq1
    try with_reducible rfl
    refine IH hlj _ _ (by rw [hwj]; rfl) (by rw [← take_snoc hst, hv]; rfl)
  · have d1 : decide ((j : Int) < (((walkL s s.c.cap.toNat (unmk (cl s (headB s.c k)))).map iA).length : Int)) = false := nlt_map (f := iA) (Nat.le_of_not_lt hlj)
    have hall : (stL s k).take j = stL s k := List.take_of_length_le (by unfold stL; rw [List.length_map]; omega)
    rw [hall]
    refine go ?_
    try with_reducible rfl
set_option maxHeartbeats 4000000 in
theorem F_impl_IsOrdered {n : Nat} {s : Sta} {k : Nat} (hs : staB s = true) (hr : s.room) (hi : s.i64) (hk : k < s.c.keys.toNat) : callP cfg (n+16) 31 [.agg (staA s), .int .i64 (k : Int)] = some ⟨.bool (ordB (stL s k)), []⟩ := by
  rw [callP_succ]
  obtain ⟨hc, m1, m2, m3, _⟩ := sta_facts hs
  have hb := isCf_bd hc
  have hL := walk_len (s := s) s.c.cap.toNat (h := unmk (cl s (headB s.c k)))
  have wk : IntKind.i64.wrap (s.c.keys - 1) = s.c.keys - 1 := wrapI (by omega) (by omega)
  have e0 : inB (k : Int) 0 (IntKind.i64.wrap (s.c.keys - 1)) = true := by rw [wk]; unfold inB; simp; omega
  have e0' : (decide (0 ≤ (k : Int)) && decide ((k : Int) ≤ IntKind.i64.wrap (s.c.keys - 1))) = true := e0
  have hlen : (stL s k).length ≤ 24 := by unfold stL listV; rw [List.length_map]; omega
  have fq1 := fun {n : Nat} => F_impl_IsState (n := n) hr hi
  have fq2 := fun {n : Nat} {a : Int} {b : Int} {c : Int} => F_impl_in (n := n) (a := a) (b := b) (c := c)
  have fq3 := fun {n : Nat} => F_impl_StampsOf (n := n) hs hr hi hk
  refine go ?_
  clear fq1 fq2 fq3
  refine (evLoop_gen (fun e (x : Nat) => e.set 6 (.int .i64 (x : Int))) (fun h _ => h) (fun x => some ⟨.bool (!((List.range (stL s k).length).drop x).any (badB (stL s k))), []⟩) (fun x => 1 ≤ x ∧ x ≤ (stL s k).length + 1) (fun x => (stL s k).length + 1 - x) 1 rfl ⟨Nat.le_refl _, by omega⟩ (by show _ - _ < 18446744073709551616; omega) ?_).trans rfl
  rintro i f ⟨h1, h2⟩ IH
  by_cases hlt : i < (stL s k).length
  · have d1 := lt_map (f := iA) hlt
    have d2 := nonneg i
    have r1 := map_get (f := iA) hlt
    have hw := wrapS (k := i) (by omega)
    have hwi : IntKind.i64.wrap ((i : Int) - 1) = ((i - 1 : Nat) : Int) := by rw [wrapI (by omega) (by omega)]; omega
    have r2 : ((stL s k).map iA)[(IntKind.i64.wrap ((i : Int) - 1)).toNat]? = some (iA ((stL s k).getD (i - 1) default)) := by rw [hwi]; exact map_get (f := iA) (by omega)
    have d3 : decide (0 ≤ IntKind.i64.wrap ((i : Int) - 1)) = true := by rw [hwi]; exact nonneg _
    have d4 : decide (IntKind.i64.wrap ((i : Int) - 1) < (((stL s k).map iA).length : Int)) = true := by rw [hwi]; exact lt_map (f := iA) (by omega)
    have b1 := stL_bd (i := i - 1) hs hi hk (by omega)
    rw [range_drop hlt, List.any_cons]
    by_cases c1 : decide ((stL s k).getD i default > (stL s k).getD (i - 1) default) = true
    · by_cases c2 : ((stL s k).getD (i - 1) default != 0) = true
      · by_cases c0 : ((stL s k).getD i default == 0) = true
        · rw [show badB (stL s k) i = true from by unfold badB; simp only [c0, c1, c2, Bool.true_or, Bool.or_true, Bool.and_true, Bool.true_and]]
          refine go ?_
          try with_reducible rfl
          try rfl
        · replace c0 : ((stL s k).getD i default == 0) = false := by simpa only [Bool.not_eq_true] using c0
          rw [show badB (stL s k) i = true from by unfold badB; simp only [c0, c1, c2, Bool.true_or, Bool.or_true, Bool.and_true, Bool.true_and]]
          refine go ?_
          try with_reducible rfl
          try rfl
      · replace c2 : ((stL s k).getD (i - 1) default != 0) = false := by simpa only [Bool.not_eq_true] using c2
        by_cases c0 : ((stL s k).getD i default == 0) = true
        · rw [show badB (stL s k) i = true from by unfold badB; simp only [c0, c1, c2, Bool.true_or, Bool.or_true, Bool.and_true, Bool.true_and]]
          refine go ?_
          try with_reducible rfl
          try rfl
        · replace c0 : ((stL s k).getD i default == 0) = false := by simpa only [Bool.not_eq_true] using c0
          rw [show badB (stL s k) i = false from by unfold badB; simp only [c0, c1, c2, Bool.false_and, Bool.and_false, Bool.or_false], Bool.false_or]
          refine go ?_
          try with_reducible rfl
          exact (IH (i + 1) _ _ ⟨by omega, by omega⟩ (by omega) (by rw [hw]; rfl) rfl)
    · replace c1 : decide ((stL s k).getD i default > (stL s k).getD (i - 1) default) = false := by simpa only [Bool.not_eq_true] using c1
      by_cases c2 : ((stL s k).getD (i - 1) default != 0) = true
      · by_cases c0 : ((stL s k).getD i default == 0) = true
        · rw [show badB (stL s k) i = true from by unfold badB; simp only [c0, c1, c2, Bool.true_or, Bool.or_true, Bool.and_true, Bool.true_and]]
          refine go ?_
          try with_reducible rfl
          try rfl
        · replace c0 : ((stL s k).getD i default == 0) = false := by simpa only [Bool.not_eq_true] using c0
          rw [show badB (stL s k) i = false from by unfold badB; simp only [c0, c1, c2, Bool.false_and, Bool.and_false, Bool.or_false], Bool.false_or]
          refine go ?_
          try with_reducible rfl
          exact (IH (i + 1) _ _ ⟨by omega, by omega⟩ (by omega) (by rw [hw]; rfl) rfl)
      · replace c2 : ((stL s k).getD (i - 1) default != 0) = false := by simpa only [Bool.not_eq_true] using c2
        by_cases c0 : ((stL s k).getD i default == 0) = true
        · rw [show badB (stL s k) i = true from by unfold badB; simp only [c0, c1, c2, Bool.true_or, Bool.or_true, Bool.and_true, Bool.true_and]]
          refine go ?_
          try with_reducible rfl
          try rfl
        · replace c0 : ((stL s k).getD i default == 0) = false := by simpa only [Bool.not_eq_true] using c0
          rw [show badB (stL s k) i = false from by unfold badB; simp only [c0, c1, c2, Bool.false_and, Bool.and_false, Bool.or_false], Bool.false_or]
          refine go ?_
          try with_reducible rfl
          exact (IH (i + 1) _ _ ⟨by omega, by omega⟩ (by omega) (by rw [hw]; rfl) rfl)
  · have d1 := nlt_map (f := iA) (Nat.le_of_not_lt hlt)
    rw [List.drop_eq_nil_of_le (by rw [List.length_range]; omega)]
    refine go ?_
    try with_reducible rfl
    first | rfl | exact okB (e0'.trans rfl)
set_option maxHeartbeats 4000000 in
theorem F_spec_IsOrdered {n : Nat} {s : Sta} {k : Nat} (hs : staB s = true) (hr : s.room) (hi : s.i64) (hk : k < s.c.keys.toNat) : callP cfg (n+11) 25 [.agg (staA s), .int .i64 (k : Int)] = some ⟨.bool (ordB (stL s k)), []⟩ := by
  rw [callP_succ]
  obtain ⟨hc, m1, m2, m3, _⟩ := sta_facts hs
  have hb := isCf_bd hc
  have hL := walk_len (s := s) s.c.cap.toNat (h := unmk (cl s (headB s.c k)))
  have wk : IntKind.i64.wrap (s.c.keys - 1) = s.c.keys - 1 := wrapI (by omega) (by omega)
  have e0 : inB (k : Int) 0 (IntKind.i64.wrap (s.c.keys - 1)) = true := by rw [wk]; unfold inB; simp; omega
  have e0' : (decide (0 ≤ (k : Int)) && decide ((k : Int) ≤ IntKind.i64.wrap (s.c.keys - 1))) = true := e0
  have hlen : (stL s k).length ≤ 24 := by unfold stL listV; rw [List.length_map]; omega
  have fq1 := fun {n : Nat} => F_spec_StampsOf (n := n) hs hr hi hk
  refine go ?_
  clear fq1
  refine (evLoop_gen (fun e (x : Nat) => e.set 6 (.int .i64 (x : Int))) (fun h _ => h) (fun x => some ⟨.bool (!((List.range (stL s k).length).drop x).any (badB (stL s k))), []⟩) (fun x => 1 ≤ x ∧ x ≤ (stL s k).length + 1) (fun x => (stL s k).length + 1 - x) 1 rfl ⟨Nat.le_refl _, by omega⟩ (by show _ - _ < 18446744073709551616; omega) ?_).trans rfl
  rintro i f ⟨h1, h2⟩ IH
  by_cases hlt : i < (stL s k).length
  · have d1 := lt_map (f := iA) hlt
    have d2 := nonneg i
    have r1 := map_get (f := iA) hlt
    have hw := wrapS (k := i) (by omega)
    have hwi : IntKind.i64.wrap ((i : Int) - 1) = ((i - 1 : Nat) : Int) := by rw [wrapI (by omega) (by omega)]; omega
    have r2 : ((stL s k).map iA)[(IntKind.i64.wrap ((i : Int) - 1)).toNat]? = some (iA ((stL s k).getD (i - 1) default)) := by rw [hwi]; exact map_get (f := iA) (by omega)
    have d3 : decide (0 ≤ IntKind.i64.wrap ((i : Int) - 1)) = true := by rw [hwi]; exact nonneg _
    have d4 : decide (IntKind.i64.wrap ((i : Int) - 1) < (((stL s k).map iA).length : Int)) = true := by rw [hwi]; exact lt_map (f := iA) (by omega)
    have b1 := stL_bd (i := i - 1) hs hi hk (by omega)
    rw [range_drop hlt, List.any_cons]
    by_cases c1 : decide ((stL s k).getD i default > (stL s k).getD (i - 1) default) = true
    · by_cases c2 : ((stL s k).getD (i - 1) default != 0) = true
      · by_cases c0 : ((stL s k).getD i default == 0) = true
        · have c3 : decide ((stL s k).getD (i - 1) default > 0) = ((stL s k).getD (i - 1) default != 0) := pos_ne b1.1
          rw [c2] at c3
          rw [show badB (stL s k) i = true from by unfold badB; simp only [c0, c1, c2, Bool.true_or, Bool.or_true, Bool.and_true, Bool.true_and]]
          refine go ?_
          try with_reducible rfl
          try rfl
        · replace c0 : ((stL s k).getD i default == 0) = false := by simpa only [Bool.not_eq_true] using c0
          have c3 : decide ((stL s k).getD (i - 1) default > 0) = ((stL s k).getD (i - 1) default != 0) := pos_ne b1.1
          rw [c2] at c3
          rw [show badB (stL s k) i = true from by unfold badB; simp only [c0, c1, c2, Bool.true_or, Bool.or_true, Bool.and_true, Bool.true_and]]
          refine go ?_
          try with_reducible rfl
          try rfl
      · replace c2 : ((stL s k).getD (i - 1) default != 0) = false := by simpa only [Bool.not_eq_true] using c2
        by_cases c0 : ((stL s k).getD i default == 0) = true
        · have c3 : decide ((stL s k).getD (i - 1) default > 0) = ((stL s k).getD (i - 1) default != 0) := pos_ne b1.1
          rw [c2] at c3
          rw [show badB (stL s k) i = true from by unfold badB; simp only [c0, c1, c2, Bool.true_or, Bool.or_true, Bool.and_true, Bool.true_and]]
          refine go ?_
          try with_reducible rfl
          try rfl
        · replace c0 : ((stL s k).getD i default == 0) = false := by simpa only [Bool.not_eq_true] using c0
          have c3 : decide ((stL s k).getD (i - 1) default > 0) = ((stL s k).getD (i - 1) default != 0) := pos_ne b1.1
          rw [c2] at c3
          rw [show badB (stL s k) i = false from by unfold badB; simp only [c0, c1, c2, Bool.false_and, Bool.and_false, Bool.or_false], Bool.false_or]
          refine go ?_
          try with_reducible rfl
          exact (IH (i + 1) _ _ ⟨by omega, by omega⟩ (by omega) (by rw [hw]; rfl) rfl)
    · replace c1 : decide ((stL s k).getD i default > (stL s k).getD (i - 1) default) = false := by simpa only [Bool.not_eq_true] using c1
      by_cases c2 : ((stL s k).getD (i - 1) default != 0) = true
      · by_cases c0 : ((stL s k).getD i default == 0) = true
        · have c3 : decide ((stL s k).getD (i - 1) default > 0) = ((stL s k).getD (i - 1) default != 0) := pos_ne b1.1
          rw [c2] at c3
          rw [show badB (stL s k) i = true from by unfold badB; simp only [c0, c1, c2, Bool.true_or, Bool.or_true, Bool.and_true, Bool.true_and]]
          refine go ?_
          try with_reducible rfl
          try rfl
        · replace c0 : ((stL s k).getD i default == 0) = false := by simpa only [Bool.not_eq_true] using c0
          have c3 : decide ((stL s k).getD (i - 1) default > 0) = ((stL s k).getD (i - 1) default != 0) := pos_ne b1.1
          rw [c2] at c3
          rw [show badB (stL s k) i = false from by unfold badB; simp only [c0, c1, c2, Bool.false_and, Bool.and_false, Bool.or_false], Bool.false_or]
          refine go ?_
          try with_reducible rfl
          exact (IH (i + 1) _ _ ⟨by omega, by omega⟩ (by omega) (by rw [hw]; rfl) rfl)
      · replace c2 : ((stL s k).getD (i - 1) default != 0) = false := by simpa only [Bool.not_eq_true] using c2
        by_cases c0 : ((stL s k).getD i default == 0) = true
        · have c3 : decide ((stL s k).getD (i - 1) default > 0) = ((stL s k).getD (i - 1) default != 0) := pos_ne b1.1
          rw [c2] at c3
          rw [show badB (stL s k) i = true from by unfold badB; simp only [c0, c1, c2, Bool.true_or, Bool.or_true, Bool.and_true, Bool.true_and]]
          refine go ?_
          try with_reducible rfl
          try rfl
        · replace c0 : ((stL s k).getD i default == 0) = false := by simpa only [Bool.not_eq_true] using c0
          have c3 : decide ((stL s k).getD (i - 1) default > 0) = ((stL s k).getD (i - 1) default != 0) := pos_ne b1.1
          rw [c2] at c3
          rw [show badB (stL s k) i = false from by unfold badB; simp only [c0, c1, c2, Bool.false_and, Bool.and_false, Bool.or_false], Bool.false_or]
          refine go ?_
          try with_reducible rfl
          exact (IH (i + 1) _ _ ⟨by omega, by omega⟩ (by omega) (by rw [hw]; rfl) rfl)
  · have d1 := nlt_map (f := iA) (Nat.le_of_not_lt hlt)
    rw [List.drop_eq_nil_of_le (by rw [List.length_range]; omega)]
    have fq1 := fun {n : Nat} => F_spec_IsState (n := n) hr hi
    have fq2 := fun {n : Nat} {a : Int} {b : Int} {c : Int} => F_spec_l1In (n := n) (a := a) (b := b) (c := c)
    refine go ?_
    clear fq1 fq2
    try with_reducible rfl
    first | rfl | exact okB (e0'.trans rfl)
set_option maxHeartbeats 4000000 in
theorem F_impl_IsSafe {n : Nat} {s : Sta} (hr : s.room) (hi : s.i64) : callP cfg (n+17) 9 [.agg (staA s)] = some ⟨.bool (safeV s), []⟩ := by
  rw [callP_succ]
  unfold safeV
  by_cases hv : (staB s && (ccV s 6 == 0)) = true
  · have hs : staB s = true := (Bool.and_eq_true_iff.1 hv).1
    have hb := isCf_bd (sta_facts hs).1
    rw [hv, Bool.true_and]
    by_cases hf : (s.faults != 0) = true
    · have hf2 : (s.faults == 0) = false := by simpa using hf
      rw [hf2, Bool.false_and]
      have fq1 := fun {n : Nat} => F_impl_IsConserved (n := n) hr hi
      refine go ?_
      clear fq1
      try with_reducible rfl
    · replace hf : (s.faults != 0) = false := by simpa only [Bool.not_eq_true] using hf
      have hf2 : (s.faults == 0) = true := by simpa using hf
      rw [hf2, Bool.true_and]
      have fq1 := fun {n : Nat} => F_impl_IsConserved (n := n) hr hi
      refine go ?_
      clear fq1
      refine (evLoop_run (fun e k => e.set 15 (.int .i64 (k : Int))) (fun h _ => h) (fun k => some ⟨.bool ((((List.range s.c.keys.toNat).drop k).all fun k => ordB (stL s k))), []⟩) s.c.keys.toNat (by show _ < 18446744073709551616; omega) rfl ?_).trans (okB (by simp only [List.drop_zero]))
      intro k f hk IH
      by_cases hlt : k < s.c.keys.toNat
      · have e1 : decide ((k : Int) < s.c.keys) = true := decide_eq_true (by omega)
        have hw := wrapS (k := k) (by omega)
        rw [range_drop hlt, List.all_cons]
        by_cases hv : ordB (stL s k) = true
        · rw [hv, Bool.true_and]
          have fq1 := fun {n : Nat} => F_impl_IsOrdered (n := n) hs hr hi hlt
          refine go ?_
          clear fq1
          try with_reducible rfl
          exact IH hlt _ _ (by rw [hw]; rfl) rfl
        · replace hv : ordB (stL s k) = false := by simpa only [Bool.not_eq_true] using hv
          rw [hv]
          have fq1 := fun {n : Nat} => F_impl_IsOrdered (n := n) hs hr hi hlt
          refine go ?_
          clear fq1
          try with_reducible rfl
          simp only [Bool.false_and, Bool.and_false]
      · have e1 : decide ((k : Int) < s.c.keys) = false := decide_eq_false (by omega)
        rw [List.drop_eq_nil_of_le (by rw [List.length_range]; omega)]
        refine go ?_
        try with_reducible rfl
        rfl
  · replace hv : (staB s && (ccV s 6 == 0)) = false := by simpa only [Bool.not_eq_true] using hv
    rw [hv, Bool.false_and]
    have fq1 := fun {n : Nat} => F_impl_IsConserved (n := n) hr hi
    refine go ?_
    clear fq1
    try with_reducible rfl
set_option maxHeartbeats 4000000 in
theorem F_spec_IsSafe {n : Nat} {s : Sta} (hr : s.room) (hi : s.i64) : callP cfg (n+15) 7 [.agg (staA s)] = some ⟨.bool (safeV s), []⟩ := by
  rw [callP_succ]
  unfold safeV
  by_cases hs : staB s = true
  · have hb := isCf_bd (sta_facts hs).1
    refine go ?_
    refine (evLoop_run (fun e k => e.set 3 (.int .i64 (k : Int))) (fun h _ => h) (fun k => some ⟨.bool ((staB s && (ccV s 6 == 0)) && ((s.faults == 0) && (((List.range s.c.keys.toNat).drop k).all fun k => ordB (stL s k)))), []⟩) s.c.keys.toNat (by show _ < 18446744073709551616; omega) rfl ?_).trans (okB (by simp only [List.drop_zero]))
    intro k f hk IH
    by_cases hlt : k < s.c.keys.toNat
    · have e1 : decide ((k : Int) < s.c.keys) = true := decide_eq_true (by omega)
      have hw := wrapS (k := k) (by omega)
      rw [range_drop hlt, List.all_cons]
      by_cases hv : ordB (stL s k) = true
      · rw [hv, Bool.true_and]
        have fq1 := fun {n : Nat} => F_spec_IsState (n := n) hr hi
        have fq2 := fun {n : Nat} => F_spec_IsOrdered (n := n) hs hr hi hlt
        refine go ?_
        clear fq1 fq2
        try with_reducible rfl
        exact IH hlt _ _ (by rw [hw]; rfl) rfl
      · replace hv : ordB (stL s k) = false := by simpa only [Bool.not_eq_true] using hv
        rw [hv]
        have fq1 := fun {n : Nat} => F_spec_IsState (n := n) hr hi
        have fq2 := fun {n : Nat} => F_spec_IsOrdered (n := n) hs hr hi hlt
        refine go ?_
        clear fq1 fq2
        try with_reducible rfl
        simp only [Bool.false_and, Bool.and_false]
    · have e1 : decide ((k : Int) < s.c.keys) = false := decide_eq_false (by omega)
      rw [List.drop_eq_nil_of_le (by rw [List.length_range]; omega)]
      by_cases hv : (staB s && (ccV s 6 == 0)) = true
      · by_cases hf : (s.faults == 0) = true
        · rw [hv, hf]
          have fq1 := fun {n : Nat} => F_spec_IsConserved (n := n) hr hi
          refine go ?_
          clear fq1
          try with_reducible rfl
          exact okB (hf.trans rfl)
        · replace hf : (s.faults == 0) = false := by simpa only [Bool.not_eq_true] using hf
          rw [hv, hf]
          have fq1 := fun {n : Nat} => F_spec_IsConserved (n := n) hr hi
          refine go ?_
          clear fq1
          try with_reducible rfl
          exact okB (hf.trans rfl)
      · replace hv : (staB s && (ccV s 6 == 0)) = false := by simpa only [Bool.not_eq_true] using hv
        rw [hv]
        have fq1 := fun {n : Nat} => F_spec_IsConserved (n := n) hr hi
        refine go ?_
        clear fq1
        try with_reducible rfl
        try rfl
  · replace hs : staB s = false := by simpa only [Bool.not_eq_true] using hs
    have hv : (staB s && (ccV s 6 == 0)) = false := by rw [hs]; rfl
    rw [hv, Bool.false_and]
    refine go ?_
    refine (evLoop_run (fun e k => e.set 3 (.int .i64 (k : Int))) (fun h _ => h) (fun _ => some ⟨.bool false, []⟩) 0 (by decide) rfl ?_).trans rfl
    intro k f hk IH
    obtain rfl : k = 0 := by omega
    clear IH hk
    by_cases hlt : (0 : Int) < s.c.keys
    · have e1 : decide (((0 : Nat) : Int) < s.c.keys) = true := decide_eq_true hlt
      have fq1 := fun {n : Nat} => F_spec_IsState (n := n) hr hi
      have fq2 := fun {n : Nat} => F_spec_IsConserved (n := n) hr hi
      refine go ?_
      clear fq1 fq2
      try with_reducible rfl
    · have e1 : decide (((0 : Nat) : Int) < s.c.keys) = false := decide_eq_false hlt
      have fq1 := fun {n : Nat} => F_spec_IsConserved (n := n) hr hi
      refine go ?_
      clear fq1
      try with_reducible rfl
set_option maxHeartbeats 4000000 in
theorem F_laws_FnExactIsSafe {n : Nat} {s : Sta} (hs : s.len) (hi : s.i64) : callP cfg (n+18) 3 [.agg (staA s)] = some ⟨.bool true, []⟩ := by
  rw [callP_succ]
  by_cases hb : szSta s 1048576 < 0
  · have e0 : decide (szSta s 1048576 < 0) = true := by simpa using hb
    have fq1 := fun {n : Nat} => F_laws_szState (n := n) (b := 1048576) hs (by decide) (by decide)
    refine go ?_
    clear fq1
    try with_reducible rfl
  · have e0 : decide (szSta s 1048576 < 0) = false := by simpa using hb
    have hr := szSta_room (s := s) (by omega)
    have e2 : (!decide (s = s)) = false := by simp
    have e3 : (!((safeV s) == (safeV s))) = false := by simp
    have fq1 := fun {n : Nat} => F_laws_szState (n := n) (b := 1048576) hs (by decide) (by decide)
    have fq2 := fun {n : Nat} => F_laws_toState (n := n) hr
    have fq3 := fun {n : Nat} {b : Sta} => F_laws_eqState (n := n) (b := b) hs
    have fq4 := fun {n : Nat} => F_spec_IsSafe (n := n) hr hi
    have fq5 := fun {n : Nat} => F_impl_IsSafe (n := n) hr hi
    refine goD ?_
    clear fq1 fq2 fq3 fq4 fq5
    try with_reducible rfl
end Go.Proofs.YtpmlbimlndphhaaGreat.A
