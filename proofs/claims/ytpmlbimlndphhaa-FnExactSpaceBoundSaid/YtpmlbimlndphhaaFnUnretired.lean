/- What the functions of the states answer, part 7: no condition. -/
import Derived.Test.YtpmlbimlndphhaaFnG
set_option linter.unusedVariables false
set_option linter.unusedSimpArgs false
namespace Go.Proofs.Ytpmlbimlndphhaa.A
open Go Go.Abs
set_option maxRecDepth 100000
abbrev unrB (t : Th) : Bool := inB t.pc 43 45 && (t.curr != 0)
def cntT (p : Th → Bool) : List Th → Int
  | [] => 0
  | t :: l => (if p t = true then 1 else 0) + cntT p l
noncomputable def unrV (s : Sta) : Int := if staB s = true then cntT unrB s.ths else 0
set_option maxHeartbeats 4000000 in
theorem F_impl_Unretired {n : Nat} {s : Sta} (hr : s.room) (hi : s.i64) : callP cfg (n+14) 15 [.agg (staA s)] = some ⟨.int .i64 (unrV s), []⟩ := by
  rw [callP_succ]
  have hl := hr.2.2.1
  unfold unrV
  by_cases hs : staB s = true
  · rw [if_pos hs]
    repeat' ((conv => lhs; whnf); first | (with_reducible refine evOps_cons.trans ?_) | (with_reducible refine evOps_nil.trans ?_) | (with_reducible refine ev_seq.trans ?_) | (with_reducible refine ev_region.trans ?_) | (with_reducible refine ev_cond.trans ?_) | (with_reducible refine ev_block.trans ?_) | (with_reducible refine ev_loop.trans ?_) | (with_reducible refine ev_exit.trans ?_) | (with_reducible refine ev_ret.trans ?_) | (with_reducible refine ev_skip.trans ?_) | (with_reducible refine ev_draw.trans ?_) | (with_reducible refine evList_cons.trans ?_) | (with_reducible refine evList_nil.trans ?_) | (with_reducible refine (br_true _ _).trans ?_) | (with_reducible refine (br_false _ _).trans ?_) | (with_reducible refine (br_pos (by assumption)).trans ?_) | (with_reducible refine (br_neg (by assumption)).trans ?_) | (with_reducible refine (br_nt (by assumption)).trans ?_) | (with_reducible refine (br_nf (by assumption)).trans ?_) | (with_reducible refine (bnd_call (F_impl_IsState hr hi)).trans ?_) | (with_reducible refine (navR_nil _ _ _).trans ?_) | (with_reducible refine (modR_nil _ _ _).trans ?_) | fail)

    refine (evLoop_gen (fun e (x : Nat × Int) => (e.set 12 (.int .i64 (x.1 : Int))).set 3 (.int .i64 x.2)) (fun h _ => h) (fun x => some ⟨.int .i64 (x.2 + cntT unrB (s.ths.drop x.1)), []⟩) (fun x => x.1 ≤ s.ths.length ∧ 0 ≤ x.2 ∧ x.2 ≤ x.1) (fun x => s.ths.length - x.1) (0, 0) rfl ⟨Nat.zero_le _, by decide, by decide⟩ (by show _ - _ < 18446744073709551616; omega) ?_).trans (okI (Int.zero_add _))
    rintro ⟨k, m⟩ f ⟨hk, h0, h1⟩ IH
    simp only at hk h0 h1 ⊢
    by_cases hlt : k < s.ths.length
    · have e1 := lt_map (f := thA) hlt
      have e2 := nonneg k
      have r1 := map_get (f := thA) hlt
      have hw := wrapS (k := k) (by omega)
      have hwm : IntKind.i64.wrap (m + 1) = m + 1 := wrapI (by omega) (by omega)
      rw [drop_cons hlt, cntT]
      by_cases v1 : inB (s.ths.getD k default).pc 43 45 = true
      · by_cases v2 : ((s.ths.getD k default).curr != 0) = true
        · have hv : unrB (s.ths.getD k default) = true := by unfold unrB; rw [v1, v2]; rfl
          rw [if_pos hv]
          repeat' ((conv => lhs; whnf); first | (with_reducible refine evOps_cons.trans ?_) | (with_reducible refine evOps_nil.trans ?_) | (with_reducible refine ev_seq.trans ?_) | (with_reducible refine ev_region.trans ?_) | (with_reducible refine ev_cond.trans ?_) | (with_reducible refine ev_block.trans ?_) | (with_reducible refine ev_loop.trans ?_) | (with_reducible refine ev_exit.trans ?_) | (with_reducible refine ev_ret.trans ?_) | (with_reducible refine ev_skip.trans ?_) | (with_reducible refine ev_draw.trans ?_) | (with_reducible refine evList_cons.trans ?_) | (with_reducible refine evList_nil.trans ?_) | (with_reducible refine (br_true _ _).trans ?_) | (with_reducible refine (br_false _ _).trans ?_) | (with_reducible refine (br_pos (by assumption)).trans ?_) | (with_reducible refine (br_neg (by assumption)).trans ?_) | (with_reducible refine (br_nt (by assumption)).trans ?_) | (with_reducible refine (br_nf (by assumption)).trans ?_) | (refine (getRow_eq r1).trans ?_) | (with_reducible refine (navR_atT r1 (by with_unfolding_all rfl)).trans ?_) | (with_reducible refine (modR_atT r1 (by with_unfolding_all rfl)).trans ?_) | (with_reducible refine (bnd_call (F_impl_in)).trans ?_) | (with_reducible refine (navR_nil _ _ _).trans ?_) | (with_reducible refine (modR_nil _ _ _).trans ?_) | fail)
          conv => lhs; whnf
          refine (IH (k + 1, m + 1) _ _ ⟨hlt, by omega, by show m + 1 ≤ ((k + 1 : Nat) : Int); omega⟩ (by show _ - _ < _ - _; omega) (by rw [hw, hwm]; rfl) rfl).trans ?_
          refine okI ?_
          exact Int.add_assoc m 1 _
        · replace v2 : ((s.ths.getD k default).curr != 0) = false := by simpa only [Bool.not_eq_true] using v2
          have hv : ¬ unrB (s.ths.getD k default) = true := by unfold unrB; rw [v1, v2]; simp
          rw [if_neg hv]
          repeat' ((conv => lhs; whnf); first | (with_reducible refine evOps_cons.trans ?_) | (with_reducible refine evOps_nil.trans ?_) | (with_reducible refine ev_seq.trans ?_) | (with_reducible refine ev_region.trans ?_) | (with_reducible refine ev_cond.trans ?_) | (with_reducible refine ev_block.trans ?_) | (with_reducible refine ev_loop.trans ?_) | (with_reducible refine ev_exit.trans ?_) | (with_reducible refine ev_ret.trans ?_) | (with_reducible refine ev_skip.trans ?_) | (with_reducible refine ev_draw.trans ?_) | (with_reducible refine evList_cons.trans ?_) | (with_reducible refine evList_nil.trans ?_) | (with_reducible refine (br_true _ _).trans ?_) | (with_reducible refine (br_false _ _).trans ?_) | (with_reducible refine (br_pos (by assumption)).trans ?_) | (with_reducible refine (br_neg (by assumption)).trans ?_) | (with_reducible refine (br_nt (by assumption)).trans ?_) | (with_reducible refine (br_nf (by assumption)).trans ?_) | (refine (getRow_eq r1).trans ?_) | (with_reducible refine (navR_atT r1 (by with_unfolding_all rfl)).trans ?_) | (with_reducible refine (modR_atT r1 (by with_unfolding_all rfl)).trans ?_) | (with_reducible refine (bnd_call (F_impl_in)).trans ?_) | (with_reducible refine (navR_nil _ _ _).trans ?_) | (with_reducible refine (modR_nil _ _ _).trans ?_) | fail)
          conv => lhs; whnf
          refine (IH (k + 1, m) _ _ ⟨hlt, h0, by show m ≤ ((k + 1 : Nat) : Int); omega⟩ (by show _ - _ < _ - _; omega) (by rw [hw]; rfl) rfl).trans ?_
          refine okI ?_
          exact (congrArg (m + ·) (Int.zero_add _)).symm
      · replace v1 : inB (s.ths.getD k default).pc 43 45 = false := by simpa only [Bool.not_eq_true] using v1
        have hv : ¬ unrB (s.ths.getD k default) = true := by unfold unrB; rw [v1]; simp
        rw [if_neg hv]
        repeat' ((conv => lhs; whnf); first | (with_reducible refine evOps_cons.trans ?_) | (with_reducible refine evOps_nil.trans ?_) | (with_reducible refine ev_seq.trans ?_) | (with_reducible refine ev_region.trans ?_) | (with_reducible refine ev_cond.trans ?_) | (with_reducible refine ev_block.trans ?_) | (with_reducible refine ev_loop.trans ?_) | (with_reducible refine ev_exit.trans ?_) | (with_reducible refine ev_ret.trans ?_) | (with_reducible refine ev_skip.trans ?_) | (with_reducible refine ev_draw.trans ?_) | (with_reducible refine evList_cons.trans ?_) | (with_reducible refine evList_nil.trans ?_) | (with_reducible refine (br_true _ _).trans ?_) | (with_reducible refine (br_false _ _).trans ?_) | (with_reducible refine (br_pos (by assumption)).trans ?_) | (with_reducible refine (br_neg (by assumption)).trans ?_) | (with_reducible refine (br_nt (by assumption)).trans ?_) | (with_reducible refine (br_nf (by assumption)).trans ?_) | (refine (getRow_eq r1).trans ?_) | (with_reducible refine (navR_atT r1 (by with_unfolding_all rfl)).trans ?_) | (with_reducible refine (modR_atT r1 (by with_unfolding_all rfl)).trans ?_) | (with_reducible refine (bnd_call (F_impl_in)).trans ?_) | (with_reducible refine (navR_nil _ _ _).trans ?_) | (with_reducible refine (modR_nil _ _ _).trans ?_) | fail)
        conv => lhs; whnf
        refine (IH (k + 1, m) _ _ ⟨hlt, h0, by show m ≤ ((k + 1 : Nat) : Int); omega⟩ (by show _ - _ < _ - _; omega) (by rw [hw]; rfl) rfl).trans ?_
        refine okI ?_
        exact (congrArg (m + ·) (Int.zero_add _)).symm
    · have e1 := nlt_map (f := thA) (Nat.le_of_not_lt hlt)
      rw [List.drop_eq_nil_of_le (by omega)]
      repeat' ((conv => lhs; whnf); first | (with_reducible refine evOps_cons.trans ?_) | (with_reducible refine evOps_nil.trans ?_) | (with_reducible refine ev_seq.trans ?_) | (with_reducible refine ev_region.trans ?_) | (with_reducible refine ev_cond.trans ?_) | (with_reducible refine ev_block.trans ?_) | (with_reducible refine ev_loop.trans ?_) | (with_reducible refine ev_exit.trans ?_) | (with_reducible refine ev_ret.trans ?_) | (with_reducible refine ev_skip.trans ?_) | (with_reducible refine ev_draw.trans ?_) | (with_reducible refine evList_cons.trans ?_) | (with_reducible refine evList_nil.trans ?_) | (with_reducible refine (br_true _ _).trans ?_) | (with_reducible refine (br_false _ _).trans ?_) | (with_reducible refine (br_pos (by assumption)).trans ?_) | (with_reducible refine (br_neg (by assumption)).trans ?_) | (with_reducible refine (br_nt (by assumption)).trans ?_) | (with_reducible refine (br_nf (by assumption)).trans ?_) | (with_reducible refine (navR_nil _ _ _).trans ?_) | (with_reducible refine (modR_nil _ _ _).trans ?_) | fail)
      conv => lhs; whnf
      refine okI ?_
      show m = m + 0
      omega
  · replace hs : staB s = false := by simpa only [Bool.not_eq_true] using hs
    rw [if_neg (by rw [hs]; simp)]
    repeat' ((conv => lhs; whnf); first | (with_reducible refine evOps_cons.trans ?_) | (with_reducible refine evOps_nil.trans ?_) | (with_reducible refine ev_seq.trans ?_) | (with_reducible refine ev_region.trans ?_) | (with_reducible refine ev_cond.trans ?_) | (with_reducible refine ev_block.trans ?_) | (with_reducible refine ev_loop.trans ?_) | (with_reducible refine ev_exit.trans ?_) | (with_reducible refine ev_ret.trans ?_) | (with_reducible refine ev_skip.trans ?_) | (with_reducible refine ev_draw.trans ?_) | (with_reducible refine evList_cons.trans ?_) | (with_reducible refine evList_nil.trans ?_) | (with_reducible refine (br_true _ _).trans ?_) | (with_reducible refine (br_false _ _).trans ?_) | (with_reducible refine (br_pos (by assumption)).trans ?_) | (with_reducible refine (br_neg (by assumption)).trans ?_) | (with_reducible refine (br_nt (by assumption)).trans ?_) | (with_reducible refine (br_nf (by assumption)).trans ?_) | (with_reducible refine (bnd_call (F_impl_IsState hr hi)).trans ?_) | (with_reducible refine (navR_nil _ _ _).trans ?_) | (with_reducible refine (modR_nil _ _ _).trans ?_) | fail)
    conv => lhs; whnf
set_option maxHeartbeats 4000000 in
theorem F_spec_Unretired {n : Nat} {s : Sta} (hr : s.room) (hi : s.i64) : callP cfg (n+7) 13 [.agg (staA s)] = some ⟨.int .i64 (unrV s), []⟩ := by
  rw [callP_succ]
  have hl := hr.2.2.1
  unfold unrV
  by_cases hs : staB s = true
  · rw [if_pos hs]
    repeat' ((conv => lhs; whnf); first | (with_reducible refine evOps_cons.trans ?_) | (with_reducible refine evOps_nil.trans ?_) | (with_reducible refine ev_seq.trans ?_) | (with_reducible refine ev_region.trans ?_) | (with_reducible refine ev_cond.trans ?_) | (with_reducible refine ev_block.trans ?_) | (with_reducible refine ev_loop.trans ?_) | (with_reducible refine ev_exit.trans ?_) | (with_reducible refine ev_ret.trans ?_) | (with_reducible refine ev_skip.trans ?_) | (with_reducible refine ev_draw.trans ?_) | (with_reducible refine evList_cons.trans ?_) | (with_reducible refine evList_nil.trans ?_) | (with_reducible refine (br_true _ _).trans ?_) | (with_reducible refine (br_false _ _).trans ?_) | (with_reducible refine (br_pos (by assumption)).trans ?_) | (with_reducible refine (br_neg (by assumption)).trans ?_) | (with_reducible refine (br_nt (by assumption)).trans ?_) | (with_reducible refine (br_nf (by assumption)).trans ?_) | (with_reducible refine (navR_nil _ _ _).trans ?_) | (with_reducible refine (modR_nil _ _ _).trans ?_) | fail)

    refine (evLoop_gen (fun e (x : Nat × Int) => (e.set 4 (.int .i64 (x.1 : Int))).set 3 (.int .i64 x.2)) (fun h _ => h) (fun x => some ⟨.int .i64 (x.2 + cntT unrB (s.ths.drop x.1)), []⟩) (fun x => x.1 ≤ s.ths.length ∧ 0 ≤ x.2 ∧ x.2 ≤ x.1) (fun x => s.ths.length - x.1) (0, 0) rfl ⟨Nat.zero_le _, by decide, by decide⟩ (by show _ - _ < 18446744073709551616; omega) ?_).trans (okI (Int.zero_add _))
    rintro ⟨k, m⟩ f ⟨hk, h0, h1⟩ IH
    simp only at hk h0 h1 ⊢
    by_cases hlt : k < s.ths.length
    · have e1 := lt_map (f := thA) hlt
      have e2 := nonneg k
      have r1 := map_get (f := thA) hlt
      have hw := wrapS (k := k) (by omega)
      have hwm : IntKind.i64.wrap (m + 1) = m + 1 := wrapI (by omega) (by omega)
      rw [drop_cons hlt, cntT]
      by_cases v1 : inB (s.ths.getD k default).pc 43 45 = true
      · by_cases v2 : ((s.ths.getD k default).curr != 0) = true
        · have hv : unrB (s.ths.getD k default) = true := by unfold unrB; rw [v1, v2]; rfl
          rw [if_pos hv]
          repeat' ((conv => lhs; whnf); first | (with_reducible refine evOps_cons.trans ?_) | (with_reducible refine evOps_nil.trans ?_) | (with_reducible refine ev_seq.trans ?_) | (with_reducible refine ev_region.trans ?_) | (with_reducible refine ev_cond.trans ?_) | (with_reducible refine ev_block.trans ?_) | (with_reducible refine ev_loop.trans ?_) | (with_reducible refine ev_exit.trans ?_) | (with_reducible refine ev_ret.trans ?_) | (with_reducible refine ev_skip.trans ?_) | (with_reducible refine ev_draw.trans ?_) | (with_reducible refine evList_cons.trans ?_) | (with_reducible refine evList_nil.trans ?_) | (with_reducible refine (br_true _ _).trans ?_) | (with_reducible refine (br_false _ _).trans ?_) | (with_reducible refine (br_pos (by assumption)).trans ?_) | (with_reducible refine (br_neg (by assumption)).trans ?_) | (with_reducible refine (br_nt (by assumption)).trans ?_) | (with_reducible refine (br_nf (by assumption)).trans ?_) | (refine (getRow_eq r1).trans ?_) | (with_reducible refine (navR_atT r1 (by with_unfolding_all rfl)).trans ?_) | (with_reducible refine (modR_atT r1 (by with_unfolding_all rfl)).trans ?_) | (with_reducible refine (bnd_call (F_spec_l1In)).trans ?_) | (with_reducible refine (bnd_call (F_spec_IsState hr hi)).trans ?_) | (with_reducible refine (navR_nil _ _ _).trans ?_) | (with_reducible refine (modR_nil _ _ _).trans ?_) | fail)
          conv => lhs; whnf
          refine (IH (k + 1, m + 1) _ _ ⟨hlt, by omega, by show m + 1 ≤ ((k + 1 : Nat) : Int); omega⟩ (by show _ - _ < _ - _; omega) (by rw [hw, hwm]; rfl) rfl).trans ?_
          refine okI ?_
          exact Int.add_assoc m 1 _
        · replace v2 : ((s.ths.getD k default).curr != 0) = false := by simpa only [Bool.not_eq_true] using v2
          have hv : ¬ unrB (s.ths.getD k default) = true := by unfold unrB; rw [v1, v2]; simp
          rw [if_neg hv]
          repeat' ((conv => lhs; whnf); first | (with_reducible refine evOps_cons.trans ?_) | (with_reducible refine evOps_nil.trans ?_) | (with_reducible refine ev_seq.trans ?_) | (with_reducible refine ev_region.trans ?_) | (with_reducible refine ev_cond.trans ?_) | (with_reducible refine ev_block.trans ?_) | (with_reducible refine ev_loop.trans ?_) | (with_reducible refine ev_exit.trans ?_) | (with_reducible refine ev_ret.trans ?_) | (with_reducible refine ev_skip.trans ?_) | (with_reducible refine ev_draw.trans ?_) | (with_reducible refine evList_cons.trans ?_) | (with_reducible refine evList_nil.trans ?_) | (with_reducible refine (br_true _ _).trans ?_) | (with_reducible refine (br_false _ _).trans ?_) | (with_reducible refine (br_pos (by assumption)).trans ?_) | (with_reducible refine (br_neg (by assumption)).trans ?_) | (with_reducible refine (br_nt (by assumption)).trans ?_) | (with_reducible refine (br_nf (by assumption)).trans ?_) | (refine (getRow_eq r1).trans ?_) | (with_reducible refine (navR_atT r1 (by with_unfolding_all rfl)).trans ?_) | (with_reducible refine (modR_atT r1 (by with_unfolding_all rfl)).trans ?_) | (with_reducible refine (bnd_call (F_spec_l1In)).trans ?_) | (with_reducible refine (bnd_call (F_spec_IsState hr hi)).trans ?_) | (with_reducible refine (navR_nil _ _ _).trans ?_) | (with_reducible refine (modR_nil _ _ _).trans ?_) | fail)
          conv => lhs; whnf
          refine (IH (k + 1, m) _ _ ⟨hlt, h0, by show m ≤ ((k + 1 : Nat) : Int); omega⟩ (by show _ - _ < _ - _; omega) (by rw [hw]; rfl) rfl).trans ?_
          refine okI ?_
          exact (congrArg (m + ·) (Int.zero_add _)).symm
      · replace v1 : inB (s.ths.getD k default).pc 43 45 = false := by simpa only [Bool.not_eq_true] using v1
        have hv : ¬ unrB (s.ths.getD k default) = true := by unfold unrB; rw [v1]; simp
        rw [if_neg hv]
        repeat' ((conv => lhs; whnf); first | (with_reducible refine evOps_cons.trans ?_) | (with_reducible refine evOps_nil.trans ?_) | (with_reducible refine ev_seq.trans ?_) | (with_reducible refine ev_region.trans ?_) | (with_reducible refine ev_cond.trans ?_) | (with_reducible refine ev_block.trans ?_) | (with_reducible refine ev_loop.trans ?_) | (with_reducible refine ev_exit.trans ?_) | (with_reducible refine ev_ret.trans ?_) | (with_reducible refine ev_skip.trans ?_) | (with_reducible refine ev_draw.trans ?_) | (with_reducible refine evList_cons.trans ?_) | (with_reducible refine evList_nil.trans ?_) | (with_reducible refine (br_true _ _).trans ?_) | (with_reducible refine (br_false _ _).trans ?_) | (with_reducible refine (br_pos (by assumption)).trans ?_) | (with_reducible refine (br_neg (by assumption)).trans ?_) | (with_reducible refine (br_nt (by assumption)).trans ?_) | (with_reducible refine (br_nf (by assumption)).trans ?_) | (refine (getRow_eq r1).trans ?_) | (with_reducible refine (navR_atT r1 (by with_unfolding_all rfl)).trans ?_) | (with_reducible refine (modR_atT r1 (by with_unfolding_all rfl)).trans ?_) | (with_reducible refine (bnd_call (F_spec_l1In)).trans ?_) | (with_reducible refine (bnd_call (F_spec_IsState hr hi)).trans ?_) | (with_reducible refine (navR_nil _ _ _).trans ?_) | (with_reducible refine (modR_nil _ _ _).trans ?_) | fail)
        conv => lhs; whnf
        refine (IH (k + 1, m) _ _ ⟨hlt, h0, by show m ≤ ((k + 1 : Nat) : Int); omega⟩ (by show _ - _ < _ - _; omega) (by rw [hw]; rfl) rfl).trans ?_
        refine okI ?_
        exact (congrArg (m + ·) (Int.zero_add _)).symm
    · have e1 := nlt_map (f := thA) (Nat.le_of_not_lt hlt)
      rw [List.drop_eq_nil_of_le (by omega)]
      repeat' ((conv => lhs; whnf); first | (with_reducible refine evOps_cons.trans ?_) | (with_reducible refine evOps_nil.trans ?_) | (with_reducible refine ev_seq.trans ?_) | (with_reducible refine ev_region.trans ?_) | (with_reducible refine ev_cond.trans ?_) | (with_reducible refine ev_block.trans ?_) | (with_reducible refine ev_loop.trans ?_) | (with_reducible refine ev_exit.trans ?_) | (with_reducible refine ev_ret.trans ?_) | (with_reducible refine ev_skip.trans ?_) | (with_reducible refine ev_draw.trans ?_) | (with_reducible refine evList_cons.trans ?_) | (with_reducible refine evList_nil.trans ?_) | (with_reducible refine (br_true _ _).trans ?_) | (with_reducible refine (br_false _ _).trans ?_) | (with_reducible refine (br_pos (by assumption)).trans ?_) | (with_reducible refine (br_neg (by assumption)).trans ?_) | (with_reducible refine (br_nt (by assumption)).trans ?_) | (with_reducible refine (br_nf (by assumption)).trans ?_) | (with_reducible refine (navR_nil _ _ _).trans ?_) | (with_reducible refine (modR_nil _ _ _).trans ?_) | fail)
      conv => lhs; whnf
      refine okI ?_
      show m = m + 0
      omega
  · replace hs : staB s = false := by simpa only [Bool.not_eq_true] using hs
    rw [if_neg (by rw [hs]; simp)]
    repeat' ((conv => lhs; whnf); first | (with_reducible refine evOps_cons.trans ?_) | (with_reducible refine evOps_nil.trans ?_) | (with_reducible refine ev_seq.trans ?_) | (with_reducible refine ev_region.trans ?_) | (with_reducible refine ev_cond.trans ?_) | (with_reducible refine ev_block.trans ?_) | (with_reducible refine ev_loop.trans ?_) | (with_reducible refine ev_exit.trans ?_) | (with_reducible refine ev_ret.trans ?_) | (with_reducible refine ev_skip.trans ?_) | (with_reducible refine ev_draw.trans ?_) | (with_reducible refine evList_cons.trans ?_) | (with_reducible refine evList_nil.trans ?_) | (with_reducible refine (br_true _ _).trans ?_) | (with_reducible refine (br_false _ _).trans ?_) | (with_reducible refine (br_pos (by assumption)).trans ?_) | (with_reducible refine (br_neg (by assumption)).trans ?_) | (with_reducible refine (br_nt (by assumption)).trans ?_) | (with_reducible refine (br_nf (by assumption)).trans ?_) | (with_reducible refine (navR_nil _ _ _).trans ?_) | (with_reducible refine (modR_nil _ _ _).trans ?_) | fail)

    refine (evLoop_run (fun e k => (e.set 4 (.int .i64 (k : Int))).set 3 (.int .i64 0)) (fun h _ => h) (fun _ => some ⟨.int .i64 0, []⟩) 0 (by decide) rfl ?_).trans rfl
    intro k f hk IH
    obtain rfl : k = 0 := by omega
    clear IH hk
    by_cases hlt : 0 < s.ths.length
    · have e1 := lt_map (f := thA) hlt
      repeat' ((conv => lhs; whnf); first | (with_reducible refine evOps_cons.trans ?_) | (with_reducible refine evOps_nil.trans ?_) | (with_reducible refine ev_seq.trans ?_) | (with_reducible refine ev_region.trans ?_) | (with_reducible refine ev_cond.trans ?_) | (with_reducible refine ev_block.trans ?_) | (with_reducible refine ev_loop.trans ?_) | (with_reducible refine ev_exit.trans ?_) | (with_reducible refine ev_ret.trans ?_) | (with_reducible refine ev_skip.trans ?_) | (with_reducible refine ev_draw.trans ?_) | (with_reducible refine evList_cons.trans ?_) | (with_reducible refine evList_nil.trans ?_) | (with_reducible refine (br_true _ _).trans ?_) | (with_reducible refine (br_false _ _).trans ?_) | (with_reducible refine (br_pos (by assumption)).trans ?_) | (with_reducible refine (br_neg (by assumption)).trans ?_) | (with_reducible refine (br_nt (by assumption)).trans ?_) | (with_reducible refine (br_nf (by assumption)).trans ?_) | (with_reducible refine (bnd_call (F_spec_IsState hr hi)).trans ?_) | (with_reducible refine (navR_nil _ _ _).trans ?_) | (with_reducible refine (modR_nil _ _ _).trans ?_) | fail)
      conv => lhs; whnf
    · have e1 := nlt_map (f := thA) (Nat.le_of_not_lt hlt)
      repeat' ((conv => lhs; whnf); first | (with_reducible refine evOps_cons.trans ?_) | (with_reducible refine evOps_nil.trans ?_) | (with_reducible refine ev_seq.trans ?_) | (with_reducible refine ev_region.trans ?_) | (with_reducible refine ev_cond.trans ?_) | (with_reducible refine ev_block.trans ?_) | (with_reducible refine ev_loop.trans ?_) | (with_reducible refine ev_exit.trans ?_) | (with_reducible refine ev_ret.trans ?_) | (with_reducible refine ev_skip.trans ?_) | (with_reducible refine ev_draw.trans ?_) | (with_reducible refine evList_cons.trans ?_) | (with_reducible refine evList_nil.trans ?_) | (with_reducible refine (br_true _ _).trans ?_) | (with_reducible refine (br_false _ _).trans ?_) | (with_reducible refine (br_pos (by assumption)).trans ?_) | (with_reducible refine (br_neg (by assumption)).trans ?_) | (with_reducible refine (br_nt (by assumption)).trans ?_) | (with_reducible refine (br_nf (by assumption)).trans ?_) | (with_reducible refine (navR_nil _ _ _).trans ?_) | (with_reducible refine (modR_nil _ _ _).trans ?_) | fail)
      conv => lhs; whnf
set_option maxHeartbeats 4000000 in
theorem F_laws_FnExactUnretired {n : Nat} {s : Sta} (hs : s.len) (hi : s.i64) : callP cfg (n+15) 3 [.agg (staA s)] = some ⟨.bool true, []⟩ := by
  rw [callP_succ]
  by_cases hb : szSta s 1048576 < 0
  · have e0 : decide (szSta s 1048576 < 0) = true := by simpa using hb
    repeat' ((conv => lhs; whnf); first | (with_reducible refine evOps_cons.trans ?_) | (with_reducible refine evOps_nil.trans ?_) | (with_reducible refine ev_seq.trans ?_) | (with_reducible refine ev_region.trans ?_) | (with_reducible refine ev_cond.trans ?_) | (with_reducible refine ev_block.trans ?_) | (with_reducible refine ev_loop.trans ?_) | (with_reducible refine ev_exit.trans ?_) | (with_reducible refine ev_ret.trans ?_) | (with_reducible refine ev_skip.trans ?_) | (with_reducible refine ev_draw.trans ?_) | (with_reducible refine evList_cons.trans ?_) | (with_reducible refine evList_nil.trans ?_) | (with_reducible refine (br_true _ _).trans ?_) | (with_reducible refine (br_false _ _).trans ?_) | (with_reducible refine (br_pos (by assumption)).trans ?_) | (with_reducible refine (br_neg (by assumption)).trans ?_) | (with_reducible refine (br_nt (by assumption)).trans ?_) | (with_reducible refine (br_nf (by assumption)).trans ?_) | (with_reducible refine (bnd_call (F_laws_szState hs (by decide) (by decide))).trans ?_) | (with_reducible refine (bnd_call (F_laws_toState hr)).trans ?_) | (with_reducible refine (bnd_call (F_laws_eqState hs)).trans ?_) | (with_reducible refine (bnd_call (F_spec_Unretired hr hi)).trans ?_) | (with_reducible refine (bnd_call (F_impl_Unretired hr hi)).trans ?_) | (with_reducible refine (navR_nil _ _ _).trans ?_) | (with_reducible refine (modR_nil _ _ _).trans ?_) | fail)
    conv => lhs; whnf
  · have e0 : decide (szSta s 1048576 < 0) = false := by simpa using hb
    have hr := szSta_room (s := s) (by omega)
    have e2 : (!decide (s = s)) = false := by simp
    have e3 : ((unrV s) != (unrV s)) = false := bne_f rfl
    repeat' ((conv => lhs; whnf) <;> first | (with_reducible refine (addE_cons _ _ _ _ _ _).trans ?_) | (with_reducible refine (expOps_cons _ _ _ _ _ _ _ _ _ _ _).trans ?_) | (apply bndS_step) | (refine (eqS_self _ _).trans ?_) | (with_reducible refine (addE_nil _ _ _).trans ?_) | (with_reducible refine (expOps_nil _ _ _ _ _ _ _ _ _).trans ?_) | (with_reducible refine (expLvl_cons _ _ _ _ _ _ _ _ _).trans ?_) | (with_reducible refine (expLvl_nil _ _ _ _ _ _).trans ?_) | (with_reducible refine (evDag_cons _ _ _ _ _ _ _ _).trans ?_) | (with_reducible refine (evDag_nil _ _ _ _ _ _).trans ?_) | (with_reducible refine evOps_cons.trans ?_) | (with_reducible refine evOps_nil.trans ?_) | (with_reducible refine ev_seq.trans ?_) | (with_reducible refine ev_region.trans ?_) | (with_reducible refine ev_cond.trans ?_) | (with_reducible refine ev_block.trans ?_) | (with_reducible refine ev_loop.trans ?_) | (with_reducible refine ev_exit.trans ?_) | (with_reducible refine ev_ret.trans ?_) | (with_reducible refine ev_skip.trans ?_) | (with_reducible refine ev_draw.trans ?_) | (with_reducible refine evList_cons.trans ?_) | (with_reducible refine evList_nil.trans ?_) | (with_reducible refine (br_true _ _).trans ?_) | (with_reducible refine (br_false _ _).trans ?_) | (with_reducible refine (br_pos (by assumption)).trans ?_) | (with_reducible refine (br_neg (by assumption)).trans ?_) | (with_reducible refine (br_nt (by assumption)).trans ?_) | (with_reducible refine (br_nf (by assumption)).trans ?_) | (with_reducible refine (bnd_call (F_laws_szState hs (by decide) (by decide))).trans ?_) | (with_reducible refine (bnd_call (F_laws_toState hr)).trans ?_) | (with_reducible refine (bnd_call (F_laws_eqState hs)).trans ?_) | (with_reducible refine (bnd_call (F_spec_Unretired hr hi)).trans ?_) | (with_reducible refine (bnd_call (F_impl_Unretired hr hi)).trans ?_) | (with_reducible refine (navR_nil _ _ _).trans ?_) | (with_reducible refine (modR_nil _ _ _).trans ?_) | fail)
    all_goals (conv => lhs; whnf)
end Go.Proofs.Ytpmlbimlndphhaa.A
