/- What the functions of the states answer, part 6: no condition. -/
import Derived.Test.YtpmlbimlndphhaaGnB
import Derived.Test.YtpmlbimlndphhaaGnE
import Derived.Test.YtpmlbimlndphhaaGnF
set_option linter.unusedVariables false
set_option linter.unusedSimpArgs false
namespace Go.Proofs.Ytpmlbimlndphhaa.A
open Go Go.Abs
set_option maxRecDepth 100000
abbrev node2 (s : Sta) (i : Nat) : Bool := zeroB s.c (cl s (ncB s.c i 2)) && inB (cl s (ncB s.c i 0)) 0 99
def nodes2 (s : Sta) : Bool := (List.range s.c.cap.toNat).all (node2 s)
abbrev genOK (x : Int) : Bool := inB x 0 9998
def scalB (s : Sta) : Bool := inB (cl s 0) 1 s.c.cm && (inB (cl s 1) 0 s.c.cap && (inB s.steps 0 1000000 && (inB s.changes 0 1000000 && (inB s.retries 0 1000000 && inB s.faults 0 1000000))))
noncomputable def staS (s : Sta) : Bool := isCfB s.c && (eqI s.cells.length (ccB s.c) && (eqI s.gens.length s.c.cap && (eqI s.ths.length s.c.th && (s.gens.all genOK && (s.ths.all (thB s.c) && (headsB s && (nodes2 s && scalB s)))))))
theorem all_range {l : List Int} {p : Int → Bool} : l.all p = (List.range l.length).all fun i => p (l.getD i default) := by
  rw [Bool.eq_iff_iff, List.all_eq_true, List.all_eq_true]
  constructor
  · intro h i hi
    exact h _ (getD_mem (List.mem_range.1 hi))
  · intro h x hx
    obtain ⟨i, hi, rfl⟩ := List.getElem_of_mem hx
    have := h i (List.mem_range.2 hi)
    simpa [List.getD_eq_getElem?_getD, hi] using this
theorem all_and {l : List Nat} {p q : Nat → Bool} : (l.all p && l.all q) = l.all fun i => p i && q i := by
  induction l with
  | nil => rfl
  | cons a l ih =>
    simp only [List.all_cons, ← ih]
    cases p a <;> cases q a <;> simp
theorem staS_eq {s : Sta} : staS s = staB s := by
  unfold staS staB
  by_cases hc : isCfB s.c = true
  · by_cases n2 : eqI s.gens.length s.c.cap = true
    · have m2 : (s.gens.length : Int) = s.c.cap := of_decide_eq_true n2
      have e : (s.gens.all genOK && nodes2 s) = nodesB s := by
        unfold nodes2 nodesB
        have el : s.c.cap.toNat = s.gens.length := by omega
        rw [all_range, el, all_and]
        congr 1
        funext i
        simp only [genOK, node2, nodeOK]
        cases zeroB s.c (cl s (ncB s.c i 2)) <;> simp
      rw [← e, hc, n2]
      unfold scalB
      generalize s.gens.all genOK = a1
      generalize nodes2 s = a2
      generalize s.ths.all (thB s.c) = a3
      generalize headsB s = a4
      generalize eqI s.cells.length (ccB s.c) = a5
      generalize eqI s.ths.length s.c.th = a6
      generalize inB (cl s 0) 1 s.c.cm = b1
      generalize inB (cl s 1) 0 s.c.cap = b2
      generalize inB s.steps 0 1000000 = b3
      generalize inB s.changes 0 1000000 = b4
      generalize inB s.retries 0 1000000 = b5
      generalize inB s.faults 0 1000000 = b6
      cases a1 <;> cases a2 <;> cases a3 <;> cases a4 <;> cases a5 <;> cases a6 <;> simp
    · replace n2 : eqI s.gens.length s.c.cap = false := by simpa only [Bool.not_eq_true] using n2
      rw [n2]; simp
  · replace hc : isCfB s.c = false := by simpa only [Bool.not_eq_true] using hc
    rw [hc]; simp
set_option maxHeartbeats 8000000 in
theorem F_spec_IsState {n : Nat} {s : Sta} (hr : s.room) (hi : s.i64) : callP cfg (n+6) 39 [.agg (staA s)] = some ⟨.bool (staB s), []⟩ := by
  rw [callP_succ]
  rw [← staS_eq]
  by_cases hc : isCfB s.c = true
  · skip
    by_cases n1 : eqI s.cells.length (ccB s.c) = true
    · skip
      have n1f := (bne_f (by rw [List.length_map]; exact of_decide_eq_true n1) : (((s.cells.map iA).length : Int) != ccB s.c) = false)
      by_cases n2 : eqI s.gens.length s.c.cap = true
      · skip
        have n2f := (bne_f (by rw [List.length_map]; exact of_decide_eq_true n2) : (((s.gens.map iA).length : Int) != s.c.cap) = false)
        by_cases n3 : eqI s.ths.length s.c.th = true
        · skip
          have n3f := (bne_f (by rw [List.length_map]; exact of_decide_eq_true n3) : (((s.ths.map thA).length : Int) != s.c.th) = false)
          have hb := isCf_bd hc
          have m1 : (s.cells.length : Int) = ccB s.c := of_decide_eq_true n1
          have m2 : (s.gens.length : Int) = s.c.cap := of_decide_eq_true n2
          have m3 : (s.ths.length : Int) = s.c.th := of_decide_eq_true n3
          have hcc : ccB s.c = 2 + 3 * s.c.th + s.c.keys + 3 * s.c.cap := by unfold ccB; rw [if_pos hc]
          have c0 : (s.cells.map iA)[(0 : Int).toNat]? = some (iA (cl s 0)) := cl_get (by omega)
          have c1 : (s.cells.map iA)[(1 : Int).toNat]? = some (iA (cl s 1)) := cl_get (by omega)
          have k0 : decide ((0 : Int) < ((s.cells.map iA).length : Int)) = true := cl_lt (by omega)
          have k1 : decide ((1 : Int) < ((s.cells.map iA).length : Int)) = true := cl_lt (by omega)
          have z0 : decide ((0 : Int) ≤ 0) = true := rfl
          have z1 : decide ((0 : Int) ≤ 1) = true := rfl
          have hS : staS s = (s.gens.all genOK && (s.ths.all (thB s.c) && (headsB s && (nodes2 s && scalB s)))) := by unfold staS; simp only [hc, n1, n2, n3, Bool.true_and]
          rw [hS]
          have fq1 := fun {n : Nat} {c : Cf} => F_spec_IsConfig (n := n) (c := c)
          have fq2 := fun {n : Nat} {c : Cf} => F_spec_CellCount (n := n) (c := c)
          have fq3 := fun {n : Nat} {a : Int} {b : Int} {c : Int} => F_spec_l1In (n := n) (a := a) (b := b) (c := c)
          refine go ?_
          clear fq1 fq2 fq3
          refine (evLoop_run (fun e k => e.set 3 (.int .i64 (k : Int))) (fun h _ => h) (fun k => some ⟨.bool ((s.gens.drop k).all genOK && (s.ths.all (thB s.c) && (headsB s && (nodes2 s && scalB s)))), []⟩) s.gens.length (by show _ < 18446744073709551616; omega) rfl ?_).trans rfl
          intro k f hk IH
          by_cases hlt : k < s.gens.length
          · have e1 := lt_map (f := iA) hlt
            have e2 := nonneg k
            have r1 := map_get (f := iA) hlt
            have hw := wrapS (k := k) (by omega)
            rw [drop_cons hlt, List.all_cons]
            by_cases hv : genOK (s.gens.getD k default) = true
            · skip
              have fq1 := fun {n : Nat} {a : Int} {b : Int} {c : Int} => F_spec_l1In (n := n) (a := a) (b := b) (c := c)
              refine go ?_
              clear fq1
              try with_reducible rfl
              rw [hv, Bool.true_and]
              exact IH hlt _ _ (by rw [hw]; rfl) rfl
            · have hv' : genOK (s.gens.getD k default) = false := by simpa only [Bool.not_eq_true] using hv
              rw [hv']
              have fq1 := fun {n : Nat} {a : Int} {b : Int} {c : Int} => F_spec_l1In (n := n) (a := a) (b := b) (c := c)
              refine go ?_
              clear fq1
              try with_reducible rfl
              rfl
          · have e1 := nlt_map (f := iA) (Nat.le_of_not_lt hlt)
            rw [List.drop_eq_nil_of_le (by omega), List.all_nil, Bool.true_and]
            clear IH
            refine go ?_
            refine (evLoop_run (fun e k => e.set 4 (.int .i64 (k : Int))) (fun h _ => h) (fun k => some ⟨.bool ((s.ths.drop k).all (thB s.c) && (headsB s && (nodes2 s && scalB s))), []⟩) s.ths.length (by show _ < 18446744073709551616; omega) rfl ?_).trans rfl
            clear hlt e1 hk
            intro k f hk IH
            by_cases hlt : k < s.ths.length
            · have e1 := lt_map (f := thA) hlt
              have e2 := nonneg k
              have r1 := map_get (f := thA) hlt
              have hw := wrapS (k := k) (by omega)
              have hm1 := hr.2.2.2 _ (getD_mem hlt)
              have hm2 := hi.2 _ (getD_mem hlt)
              rw [drop_cons hlt, List.all_cons]
              by_cases hv : thB s.c (s.ths.getD k default) = true
              · skip
                have fq1 := fun {n : Nat} => F_spec_l8Thread (n := n) hc hm1 hm2
                refine go ?_
                clear fq1
                try with_reducible rfl
                rw [hv, Bool.true_and]
                exact IH hlt _ _ (by rw [hw]; rfl) rfl
              · have hv' : thB s.c (s.ths.getD k default) = false := by simpa only [Bool.not_eq_true] using hv
                rw [hv']
                have fq1 := fun {n : Nat} => F_spec_l8Thread (n := n) hc hm1 hm2
                refine go ?_
                clear fq1
                try with_reducible rfl
                rfl
            · have e1 := nlt_map (f := thA) (Nat.le_of_not_lt hlt)
              rw [List.drop_eq_nil_of_le (by omega), List.all_nil, Bool.true_and]
              clear IH
              refine go ?_
              refine (evLoop_run (fun e k => e.set 5 (.int .i64 (k : Int))) (fun h _ => h) (fun k => some ⟨.bool (((List.range s.c.keys.toNat).drop k).all (headOK s) && (nodes2 s && scalB s)), []⟩) s.c.keys.toNat (by show _ < 18446744073709551616; omega) rfl ?_).trans rfl
              clear hlt e1 hk
              intro k f hk IH
              by_cases hlt : k < s.c.keys.toNat
              · have e1 : decide ((k : Int) < s.c.keys) = true := decide_eq_true (by omega)
                have hw := wrapS (k := k) (by omega)
                have hh := head_in hc hlt
                rw [← m1] at hh
                have e2 : decide (0 ≤ headB s.c k) = true := decide_eq_true hh.1
                have e3 := cl_lt hh
                have r1 := cl_get hh
                have hm := hi.1 _ (cl_mem hh)
                have hk4 : (0 : Int) ≤ (k : Int) ∧ (k : Int) < 4 := by omega
                rw [range_drop hlt, List.all_cons]
                by_cases v1 : zeroB s.c (cl s (headB s.c k)) = true
                · by_cases v2 : isMk (cl s (headB s.c k)) = true
                  · have hv : headOK s k = false := by unfold headOK; rw [← zero_lnk, v1, v2]; rfl
                    rw [hv]
                    have fq1 := fun {n : Nat} {c : Cf} => F_spec_HeadCell (n := n) (c := c) hk4
                    have fq2 := fun {n : Nat} {c : Cf} => F_spec_l8Zero (n := n) (c := c) hm
                    have fq3 := fun {n : Nat} => F_spec_IsMarked (n := n) hm
                    refine go ?_
                    clear fq1 fq2 fq3
                    try with_reducible rfl
                    rfl
                  · replace v2 : isMk (cl s (headB s.c k)) = false := by simpa only [Bool.not_eq_true] using v2
                    have hv : headOK s k = true := by unfold headOK; rw [← zero_lnk, v1, v2]; rfl
                    rw [hv, Bool.true_and]
                    have fq1 := fun {n : Nat} {c : Cf} => F_spec_HeadCell (n := n) (c := c) hk4
                    have fq2 := fun {n : Nat} {c : Cf} => F_spec_l8Zero (n := n) (c := c) hm
                    have fq3 := fun {n : Nat} => F_spec_IsMarked (n := n) hm
                    refine go ?_
                    clear fq1 fq2 fq3
                    try with_reducible rfl
                    exact IH hlt _ _ (by rw [hw]; rfl) rfl
                · replace v1 : zeroB s.c (cl s (headB s.c k)) = false := by simpa only [Bool.not_eq_true] using v1
                  have hv : headOK s k = false := by unfold headOK; rw [← zero_lnk, v1]; rfl
                  rw [hv]
                  have fq1 := fun {n : Nat} {c : Cf} => F_spec_HeadCell (n := n) (c := c) hk4
                  have fq2 := fun {n : Nat} {c : Cf} => F_spec_l8Zero (n := n) (c := c) hm
                  refine go ?_
                  clear fq1 fq2
                  try with_reducible rfl
                  rfl
              · have e1 : decide ((k : Int) < s.c.keys) = false := decide_eq_false (by omega)
                rw [List.drop_eq_nil_of_le (by rw [List.length_range]; omega), List.all_nil, Bool.true_and]
                clear IH
                refine go ?_
                refine (evLoop_run (fun e k => e.set 7 (.int .i64 (k : Int))) (fun h _ => h) (fun k => some ⟨.bool (((List.range s.c.cap.toNat).drop k).all (node2 s) && scalB s), []⟩) s.c.cap.toNat (by show _ < 18446744073709551616; omega) rfl ?_).trans rfl
                clear hlt e1 hk
                intro k f hk IH
                by_cases hlt : k < s.c.cap.toNat
                · have e1 : decide ((k : Int) < s.c.cap) = true := decide_eq_true (by omega)
                  have hw := wrapS (k := k) (by omega)
                  have h0 := nc_in (f := 0) hc hlt (by omega)
                  have h2 := nc_in (f := 2) hc hlt (by omega)
                  rw [← m1] at h0 h2
                  have e2 : decide (0 ≤ ncB s.c k 0) = true := decide_eq_true h0.1
                  have e3 := cl_lt h0
                  have r0 := cl_get h0
                  have e4 : decide (0 ≤ ncB s.c k 2) = true := decide_eq_true h2.1
                  have e5 := cl_lt h2
                  have r2 := cl_get h2
                  have hm2 := hi.1 _ (cl_mem h2)
                  have hk4 : (0 : Int) ≤ (k : Int) ∧ (k : Int) < 24 := by omega
                  rw [range_drop hlt, List.all_cons]
                  by_cases v3 : zeroB s.c (cl s (ncB s.c k 2)) = true
                  · by_cases v2 : inB (cl s (ncB s.c k 0)) 0 99 = true
                    · have hv : node2 s k = true := by unfold node2; rw [v2, v3]; rfl
                      rw [hv, Bool.true_and]
                      have fq1 := fun {n : Nat} {c : Cf} => F_spec_NodeCell (n := n) (c := c) (f := 0) hk4 (by decide)
                      have fq2 := fun {n : Nat} {c : Cf} => F_spec_NodeCell (n := n) (c := c) (f := 2) hk4 (by decide)
                      have fq3 := fun {n : Nat} {a : Int} {b : Int} {c : Int} => F_spec_l1In (n := n) (a := a) (b := b) (c := c)
                      have fq4 := fun {n : Nat} {c : Cf} => F_spec_l8Zero (n := n) (c := c) hm2
                      refine go ?_
                      clear fq1 fq2 fq3 fq4
                      try with_reducible rfl
                      exact IH hlt _ _ (by rw [hw]; rfl) rfl
                    · replace v2 : inB (cl s (ncB s.c k 0)) 0 99 = false := by simpa only [Bool.not_eq_true] using v2
                      have hv : node2 s k = false := by unfold node2; rw [v3, v2]; rfl
                      rw [hv]
                      have fq1 := fun {n : Nat} {c : Cf} => F_spec_NodeCell (n := n) (c := c) (f := 0) hk4 (by decide)
                      have fq2 := fun {n : Nat} {c : Cf} => F_spec_NodeCell (n := n) (c := c) (f := 2) hk4 (by decide)
                      have fq3 := fun {n : Nat} {a : Int} {b : Int} {c : Int} => F_spec_l1In (n := n) (a := a) (b := b) (c := c)
                      have fq4 := fun {n : Nat} {c : Cf} => F_spec_l8Zero (n := n) (c := c) hm2
                      refine go ?_
                      clear fq1 fq2 fq3 fq4
                      try with_reducible rfl
                      rfl
                  · replace v3 : zeroB s.c (cl s (ncB s.c k 2)) = false := by simpa only [Bool.not_eq_true] using v3
                    have hv : node2 s k = false := by unfold node2; rw [v3]; rfl
                    rw [hv]
                    have fq1 := fun {n : Nat} {c : Cf} => F_spec_NodeCell (n := n) (c := c) (f := 0) hk4 (by decide)
                    have fq2 := fun {n : Nat} {c : Cf} => F_spec_NodeCell (n := n) (c := c) (f := 2) hk4 (by decide)
                    have fq3 := fun {n : Nat} {c : Cf} => F_spec_l8Zero (n := n) (c := c) hm2
                    refine go ?_
                    clear fq1 fq2 fq3
                    try with_reducible rfl
                    rfl
                · have e1 : decide ((k : Int) < s.c.cap) = false := decide_eq_false (by omega)
                  rw [List.drop_eq_nil_of_le (by rw [List.length_range]; omega), List.all_nil, Bool.true_and]
                  clear IH
                  have r9 := c0
                  have r8 := c1
                  have fq1 := fun {n : Nat} {a : Int} {b : Int} {c : Int} => F_spec_l1In (n := n) (a := a) (b := b) (c := c)
                  refine goS ?_
                  clear r9 r8 fq1
                  repeat' (refine bif_if (fun _ => ?_) (fun _ => ?_))
                  all_goals (conv => lhs; whnf)
                  all_goals (refine okB ?_; clear hr hi; unfold scalB inB; first | (simp_all; done) | (simp_all; intros; omega) | (rw [Bool.eq_iff_iff]; simp_all; done))
        · replace n3 : eqI s.ths.length s.c.th = false := by simpa only [Bool.not_eq_true] using n3
          have n3f := (bne_t (by rw [List.length_map]; exact of_decide_eq_false n3) : (((s.ths.map thA).length : Int) != s.c.th) = true)
          have fq1 := fun {n : Nat} {c : Cf} => F_spec_IsConfig (n := n) (c := c)
          have fq2 := fun {n : Nat} {c : Cf} => F_spec_CellCount (n := n) (c := c)
          refine go ?_
          clear fq1 fq2
          try with_reducible rfl
          refine okB ?_
          unfold staS
          simp only [n3, Bool.false_and, Bool.and_false]
      · replace n2 : eqI s.gens.length s.c.cap = false := by simpa only [Bool.not_eq_true] using n2
        have n2f := (bne_t (by rw [List.length_map]; exact of_decide_eq_false n2) : (((s.gens.map iA).length : Int) != s.c.cap) = true)
        have fq1 := fun {n : Nat} {c : Cf} => F_spec_IsConfig (n := n) (c := c)
        have fq2 := fun {n : Nat} {c : Cf} => F_spec_CellCount (n := n) (c := c)
        refine go ?_
        clear fq1 fq2
        try with_reducible rfl
        refine okB ?_
        unfold staS
        simp only [n2, Bool.false_and, Bool.and_false]
    · replace n1 : eqI s.cells.length (ccB s.c) = false := by simpa only [Bool.not_eq_true] using n1
      have n1f := (bne_t (by rw [List.length_map]; exact of_decide_eq_false n1) : (((s.cells.map iA).length : Int) != ccB s.c) = true)
      have fq1 := fun {n : Nat} {c : Cf} => F_spec_IsConfig (n := n) (c := c)
      have fq2 := fun {n : Nat} {c : Cf} => F_spec_CellCount (n := n) (c := c)
      refine go ?_
      clear fq1 fq2
      try with_reducible rfl
      refine okB ?_
      unfold staS
      simp only [n1, Bool.false_and, Bool.and_false]
  · replace hc : isCfB s.c = false := by simpa only [Bool.not_eq_true] using hc
    have fq1 := fun {n : Nat} {c : Cf} => F_spec_IsConfig (n := n) (c := c)
    have fq2 := fun {n : Nat} {c : Cf} => F_spec_CellCount (n := n) (c := c)
    refine go ?_
    clear fq1 fq2
    try with_reducible rfl
    refine okB ?_
    unfold staS
    simp only [hc, Bool.false_and, Bool.and_false]
end Go.Proofs.Ytpmlbimlndphhaa.A
namespace Go.Proofs.Ytpmlbimlndphhaa.A
open Go Go.Abs
set_option maxRecDepth 100000
theorem rows_map {α : Type} {f : α → List AV} {Q : α → Prop} : ∀ {rows : List (List AV)}, (∀ row ∈ rows, ∃ x, row = f x ∧ Q x) → ∃ xs : List α, rows = xs.map f ∧ ∀ x ∈ xs, Q x
  | [], _ => ⟨[], rfl, fun x h => by cases h⟩
  | row :: rows, h => by
    obtain ⟨x, hx, hQ⟩ := h row (List.mem_cons_self ..)
    obtain ⟨xs, hxs, hQs⟩ := rows_map (rows := rows) fun r hr => h r (List.mem_cons_of_mem _ hr)
    refine ⟨x :: xs, by rw [hx, hxs]; rfl, fun y hy => ?_⟩
    rcases List.mem_cons.1 hy with rfl | hy
    · exact hQ
    · exact hQs y hy
theorem tyInt {n : Nat} {avs : List AV} (h : Ty tys (n+1) 3 avs) : ∃ i : Int, avs = iA i ∧ I64 i := by
  obtain ⟨a, rfl, h1, h2⟩ := h
  exact ⟨a, rfl, h1, h2⟩
theorem tyInts {n : Nat} {avs : List AV} (h : Ty tys (n+2) 24 avs) : ∃ xs : List Int, avs = [intsA xs] ∧ xs.length ≤ maxLen ∧ ∀ x ∈ xs, I64 x := by
  obtain ⟨rows, rfl, hl, hr⟩ := h
  obtain ⟨xs, rfl, hQ⟩ := rows_map fun row hrow => tyInt (hr row hrow)
  exact ⟨xs, rfl, by simpa using hl, hQ⟩
theorem tyEnt {n : Nat} {avs : List AV} (h : Ty tys (n+2) 111 avs) : ∃ e : Ent, avs = entA e ∧ I64 e.h := by
  obtain ⟨_, _, rfl, ⟨a, rfl, h1⟩, _, _, rfl, ⟨b, rfl, _⟩, _, _, rfl, ⟨c, rfl, _⟩, _, _, rfl, ⟨d, rfl, _⟩, rfl⟩ := h
  exact ⟨⟨a, b, c, d⟩, rfl, h1⟩
theorem tyEnts {n : Nat} {avs : List AV} (h : Ty tys (n+3) 74 avs) : ∃ xs : List Ent, avs = [entsA xs] ∧ xs.length ≤ maxLen ∧ ∀ x ∈ xs, I64 x.h := by
  obtain ⟨rows, rfl, hl, hr⟩ := h
  obtain ⟨xs, rfl, hQ⟩ := rows_map fun row hrow => tyEnt (hr row hrow)
  exact ⟨xs, rfl, by simpa using hl, hQ⟩
theorem tyOp {n : Nat} {avs : List AV} (h : Ty tys (n+2) 72 avs) : ∃ o : Op3, avs = opA o := by
  obtain ⟨_, _, rfl, ⟨a, rfl, _⟩, _, _, rfl, ⟨b, rfl, _⟩, _, _, rfl, ⟨c, rfl, _⟩, rfl⟩ := h
  exact ⟨⟨a, b, c⟩, rfl⟩
theorem tyRs {n : Nat} {avs : List AV} (h : Ty tys (n+2) 73 avs) : ∃ o : Rs, avs = rsA o := by
  obtain ⟨_, _, rfl, ⟨a, rfl, _⟩, _, _, rfl, ⟨b, rfl, _⟩, rfl⟩ := h
  exact ⟨⟨a, b⟩, rfl⟩
theorem tyCf {n : Nat} {avs : List AV} (h : Ty tys (n+2) 23 avs) : ∃ c : Cf, avs = cfA c := by
  obtain ⟨_, _, rfl, ⟨a, rfl, _⟩, _, _, rfl, ⟨b, rfl, _⟩, _, _, rfl, ⟨c, rfl, _⟩, _, _, rfl, ⟨d, rfl, _⟩, _, _, rfl, ⟨e, rfl, _⟩, _, _, rfl, ⟨f, rfl, _⟩, rfl⟩ := h
  exact ⟨⟨a, b, c, d, e, f⟩, rfl⟩
theorem tyTh {n : Nat} {avs : List AV} (h : Ty tys (n+4) 76 avs) : ∃ t : Th, avs = thA t ∧ t.len ∧ t.i64 := by
  obtain ⟨_, _, rfl, ⟨a1, rfl, _⟩, _, _, rfl, h2, _, _, rfl, h3, _, _, rfl, ⟨a4, rfl, _⟩, _, _, rfl, ⟨a5, rfl, j5⟩, _, _, rfl, ⟨a6, rfl, j6⟩, _, _, rfl, ⟨a7, rfl, j7⟩, _, _, rfl, ⟨a8, rfl, j8⟩, _, _, rfl, ⟨a9, rfl, _⟩, _, _, rfl, ⟨a10, rfl, _⟩, _, _, rfl, ⟨a11, rfl, _⟩, _, _, rfl, h12, _, _, rfl, h13, _, _, rfl, h14, _, _, rfl, h15, _, _, rfl, h16, rfl⟩ := h
  obtain ⟨o, rfl⟩ := tyOp h2
  obtain ⟨r, rfl⟩ := tyRs h3
  obtain ⟨x12, rfl, l12, _⟩ := tyInts h12
  obtain ⟨x13, rfl, l13, _⟩ := tyInts h13
  obtain ⟨x14, rfl, l14, q14⟩ := tyEnts h14
  obtain ⟨x15, rfl, l15, q15⟩ := tyEnts h15
  obtain ⟨x16, rfl, l16, q16⟩ := tyInts h16
  exact ⟨⟨a1, o, r, a4, a5, a6, a7, a8, a9, a10, a11, x12, x13, x14, x15, x16⟩, rfl, ⟨l12, l13, l14, l15, l16⟩, j5, j6, j7, j8, q14, q15, q16⟩
theorem tyThs {n : Nat} {avs : List AV} (h : Ty tys (n+5) 25 avs) : ∃ xs : List Th, avs = [thsA xs] ∧ xs.length ≤ maxLen ∧ ∀ t ∈ xs, t.len ∧ t.i64 := by
  obtain ⟨rows, rfl, hl, hr⟩ := h
  obtain ⟨xs, rfl, hQ⟩ := rows_map fun row hrow => tyTh (hr row hrow)
  exact ⟨xs, rfl, by simpa using hl, hQ⟩
theorem tySta {n : Nat} {avs : List AV} (h : Ty tys (n+6) 27 avs) : ∃ s : Sta, avs = staA s ∧ s.len ∧ s.i64 := by
  obtain ⟨_, _, rfl, h1, _, _, rfl, h2, _, _, rfl, h3, _, _, rfl, h4, _, _, rfl, ⟨a5, rfl, _⟩, _, _, rfl, ⟨a6, rfl, _⟩, _, _, rfl, ⟨a7, rfl, _⟩, _, _, rfl, ⟨a8, rfl, _⟩, rfl⟩ := h
  obtain ⟨c, rfl⟩ := tyCf h1
  obtain ⟨x2, rfl, l2, q2⟩ := tyInts h2
  obtain ⟨x3, rfl, l3, _⟩ := tyInts h3
  obtain ⟨x4, rfl, l4, q4⟩ := tyThs h4
  exact ⟨⟨c, x2, x3, x4, a5, a6, a7, a8⟩, rfl, ⟨l2, l3, l4, fun t ht => (q4 t ht).1⟩, q2, fun t ht => (q4 t ht).2⟩
end Go.Proofs.Ytpmlbimlndphhaa.A
