/- What the functions of the states answer, part 8: no condition. -/
import Derived.Test.YtpmlbimlndphhaaFnUnretired
set_option linter.unusedVariables false
set_option linter.unusedSimpArgs false
namespace Go.Proofs.Ytpmlbimlndphhaa.A
open Go Go.Abs
set_option maxRecDepth 100000
abbrev prvB (t : Th) : Bool := inB t.pc 32 42 && (t.node != 0)
def lenT (t : Th) : Int := (t.buf.length : Int) + t.work.length + t.limbo.length
def spB (t : Th) : Int := lenT t + (if prvB t = true then 1 else 0)
def sumT : List Th → Int
  | [] => 0
  | t :: l => spB t + sumT l
noncomputable def spaceV (s : Sta) : Int := if staB s = true then s.c.keys + unrV s + sumT s.ths else 0
theorem cntT_le {p : Th → Bool} : ∀ {l : List Th}, 0 ≤ cntT p l ∧ cntT p l ≤ l.length
  | [] => by simp [cntT]
  | t :: l => by
    have := cntT_le (p := p) (l := l)
    rw [cntT, List.length_cons]
    split <;> omega
theorem unrV_le {s : Sta} : 0 ≤ unrV s ∧ unrV s ≤ s.ths.length := by
  unfold unrV
  split
  · exact cntT_le
  · omega
theorem F_spec_l22Private {n : Nat} {t : Th} : callP cfg (n+2) 48 [.agg (thA t)] = some ⟨.bool (prvB t), []⟩ := by
  rw [callP_succ]
  repeat' ((conv => lhs; whnf); first | (with_reducible refine evOps_cons.trans ?_) | (with_reducible refine evOps_nil.trans ?_) | (with_reducible refine ev_seq.trans ?_) | (with_reducible refine ev_region.trans ?_) | (with_reducible refine ev_cond.trans ?_) | (with_reducible refine ev_block.trans ?_) | (with_reducible refine ev_loop.trans ?_) | (with_reducible refine ev_exit.trans ?_) | (with_reducible refine ev_ret.trans ?_) | (with_reducible refine ev_skip.trans ?_) | (with_reducible refine ev_draw.trans ?_) | (with_reducible refine evList_cons.trans ?_) | (with_reducible refine evList_nil.trans ?_) | (with_reducible refine (br_true _ _).trans ?_) | (with_reducible refine (br_false _ _).trans ?_) | (with_reducible refine (br_pos (by assumption)).trans ?_) | (with_reducible refine (br_neg (by assumption)).trans ?_) | (with_reducible refine (br_nt (by assumption)).trans ?_) | (with_reducible refine (br_nf (by assumption)).trans ?_) | (with_reducible refine (bnd_call (F_spec_l1In)).trans ?_) | (with_reducible refine (navR_nil _ _ _).trans ?_) | (with_reducible refine (modR_nil _ _ _).trans ?_) | (refine br_if (fun _ => ?_) (fun _ => ?_)) | fail)

  all_goals (conv => lhs; whnf)
  all_goals (refine okB ?_; unfold prvB inB; first | (simp_all; done) | (rw [Bool.eq_iff_iff]; simp_all; done) | (simp_all; intros; omega))
theorem F_impl_isPrivate {n : Nat} {t : Th} : callP cfg (n+2) 49 [.agg (thA t)] = some ⟨.bool (inB t.pc 32 42), []⟩ := by
  rw [callP_succ]
  repeat' ((conv => lhs; whnf); first | (with_reducible refine evOps_cons.trans ?_) | (with_reducible refine evOps_nil.trans ?_) | (with_reducible refine ev_seq.trans ?_) | (with_reducible refine ev_region.trans ?_) | (with_reducible refine ev_cond.trans ?_) | (with_reducible refine ev_block.trans ?_) | (with_reducible refine ev_loop.trans ?_) | (with_reducible refine ev_exit.trans ?_) | (with_reducible refine ev_ret.trans ?_) | (with_reducible refine ev_skip.trans ?_) | (with_reducible refine ev_draw.trans ?_) | (with_reducible refine evList_cons.trans ?_) | (with_reducible refine evList_nil.trans ?_) | (with_reducible refine (br_true _ _).trans ?_) | (with_reducible refine (br_false _ _).trans ?_) | (with_reducible refine (br_pos (by assumption)).trans ?_) | (with_reducible refine (br_neg (by assumption)).trans ?_) | (with_reducible refine (br_nt (by assumption)).trans ?_) | (with_reducible refine (br_nf (by assumption)).trans ?_) | (with_reducible refine (bnd_call (F_impl_in)).trans ?_) | (with_reducible refine (navR_nil _ _ _).trans ?_) | (with_reducible refine (modR_nil _ _ _).trans ?_) | fail)
  conv => lhs; whnf
set_option maxHeartbeats 4000000 in
theorem F_impl_SpaceBound {n : Nat} {s : Sta} (hr : s.room) (hi : s.i64) : callP cfg (n+15) 18 [.agg (staA s)] = some ⟨.int .i64 (spaceV s), []⟩ := by
  rw [callP_succ]
  have hl := hr.2.2.1
  have hu := unrV_le (s := s)
  unfold spaceV
  by_cases hs : staB s = true
  · rw [if_pos hs]
    have hc : isCfB s.c = true := by unfold staB at hs; exact (Bool.and_eq_true_iff.1 hs).1
    have hb := isCf_bd hc
    have h00 : IntKind.i64.wrap (s.c.keys + unrV s) = s.c.keys + unrV s := wrapI (by omega) (by omega)
    repeat' ((conv => lhs; whnf); first | (with_reducible refine evOps_cons.trans ?_) | (with_reducible refine evOps_nil.trans ?_) | (with_reducible refine ev_seq.trans ?_) | (with_reducible refine ev_region.trans ?_) | (with_reducible refine ev_cond.trans ?_) | (with_reducible refine ev_block.trans ?_) | (with_reducible refine ev_loop.trans ?_) | (with_reducible refine ev_exit.trans ?_) | (with_reducible refine ev_ret.trans ?_) | (with_reducible refine ev_skip.trans ?_) | (with_reducible refine ev_draw.trans ?_) | (with_reducible refine evList_cons.trans ?_) | (with_reducible refine evList_nil.trans ?_) | (with_reducible refine (br_true _ _).trans ?_) | (with_reducible refine (br_false _ _).trans ?_) | (with_reducible refine (br_pos (by assumption)).trans ?_) | (with_reducible refine (br_neg (by assumption)).trans ?_) | (with_reducible refine (br_nt (by assumption)).trans ?_) | (with_reducible refine (br_nf (by assumption)).trans ?_) | (with_reducible refine (bnd_call (F_impl_IsState hr hi)).trans ?_) | (with_reducible refine (bnd_call (F_impl_Unretired hr hi)).trans ?_) | (with_reducible refine (navR_nil _ _ _).trans ?_) | (with_reducible refine (modR_nil _ _ _).trans ?_) | fail)

    rw [h00]
    refine (evLoop_gen (fun e (x : Nat × Int) => (e.set 18 (.int .i64 (x.1 : Int))).set 3 (.int .i64 x.2)) (fun h _ => h) (fun x => some ⟨.int .i64 (x.2 + sumT (s.ths.drop x.1)), []⟩) (fun x => x.1 ≤ s.ths.length ∧ 0 ≤ x.2 ∧ x.2 ≤ 2097152 + 3145729 * (x.1 : Int)) (fun x => s.ths.length - x.1) (0, s.c.keys + unrV s) rfl ⟨Nat.zero_le _, by show 0 ≤ s.c.keys + unrV s; omega, by show s.c.keys + unrV s ≤ 2097152 + 3145729 * ((0 : Nat) : Int); omega⟩ (by show _ - _ < 18446744073709551616; omega) ?_).trans rfl
    rintro ⟨k, m⟩ f ⟨hk, h0, h1⟩ IH
    simp only at hk h0 h1 ⊢
    by_cases hlt : k < s.ths.length
    · have e1 := lt_map (f := thA) hlt
      have e2 := nonneg k
      have r1 := map_get (f := thA) hlt
      have hw := wrapS (k := k) (by omega)
      obtain ⟨g1, g2, g3, g4, g5⟩ := hr.2.2.2 _ (getD_mem hlt)
      have hlen : lenT (s.ths.getD k default) = ((s.ths.getD k default).buf.length : Int) + (s.ths.getD k default).work.length + (s.ths.getD k default).limbo.length := rfl
      have hs0 : IntKind.i64.wrap (m + IntKind.i64.wrap (IntKind.i64.wrap ((((s.ths.getD k default).buf.map entA).length : Int) + (((s.ths.getD k default).work.map entA).length : Int)) + (((s.ths.getD k default).limbo.map iA).length : Int))) = m + lenT (s.ths.getD k default) := by
        simp only [List.length_map]
        rw [wrapI (x := ((s.ths.getD k default).buf.length : Int) + ((s.ths.getD k default).work.length : Int)) (by omega) (by omega), wrapI (x := ((s.ths.getD k default).buf.length : Int) + ((s.ths.getD k default).work.length : Int) + ((s.ths.getD k default).limbo.length : Int)) (by omega) (by omega), wrapI (x := m + (((s.ths.getD k default).buf.length : Int) + ((s.ths.getD k default).work.length : Int) + ((s.ths.getD k default).limbo.length : Int))) (by omega) (by omega)]; omega
      have hs1 : IntKind.i64.wrap (IntKind.i64.wrap (m + IntKind.i64.wrap (IntKind.i64.wrap ((((s.ths.getD k default).buf.map entA).length : Int) + (((s.ths.getD k default).work.map entA).length : Int)) + (((s.ths.getD k default).limbo.map iA).length : Int))) + 1) = m + lenT (s.ths.getD k default) + 1 := by
        rw [hs0]; exact wrapI (by omega) (by omega)
      rw [drop_cons hlt, sumT]
      by_cases v1 : inB (s.ths.getD k default).pc 32 42 = true
      · by_cases v2 : ((s.ths.getD k default).node != 0) = true
        · have hv : spB (s.ths.getD k default) = lenT (s.ths.getD k default) + 1 := by unfold spB; rw [if_pos (by unfold prvB; rw [v1, v2]; rfl)]
          repeat' ((conv => lhs; whnf); first | (with_reducible refine evOps_cons.trans ?_) | (with_reducible refine evOps_nil.trans ?_) | (with_reducible refine ev_seq.trans ?_) | (with_reducible refine ev_region.trans ?_) | (with_reducible refine ev_cond.trans ?_) | (with_reducible refine ev_block.trans ?_) | (with_reducible refine ev_loop.trans ?_) | (with_reducible refine ev_exit.trans ?_) | (with_reducible refine ev_ret.trans ?_) | (with_reducible refine ev_skip.trans ?_) | (with_reducible refine ev_draw.trans ?_) | (with_reducible refine evList_cons.trans ?_) | (with_reducible refine evList_nil.trans ?_) | (with_reducible refine (br_true _ _).trans ?_) | (with_reducible refine (br_false _ _).trans ?_) | (with_reducible refine (br_pos (by assumption)).trans ?_) | (with_reducible refine (br_neg (by assumption)).trans ?_) | (with_reducible refine (br_nt (by assumption)).trans ?_) | (with_reducible refine (br_nf (by assumption)).trans ?_) | (refine (getRow_eq r1).trans ?_) | (with_reducible refine (navR_atT r1 (by with_unfolding_all rfl)).trans ?_) | (with_reducible refine (modR_atT r1 (by with_unfolding_all rfl)).trans ?_) | (with_reducible refine (bnd_call (F_impl_isPrivate)).trans ?_) | (with_reducible refine (navR_nil _ _ _).trans ?_) | (with_reducible refine (modR_nil _ _ _).trans ?_) | fail)
          conv => lhs; whnf
          refine (IH (k + 1, m + lenT (s.ths.getD k default) + 1) _ _ ⟨hlt, by show 0 ≤ m + lenT (s.ths.getD k default) + 1; omega, by show m + lenT (s.ths.getD k default) + 1 ≤ 2097152 + 3145729 * ((k + 1 : Nat) : Int); omega⟩ (by show _ - _ < _ - _; omega) (by rw [hw, hs1]; rfl) rfl).trans ?_
          refine okI ?_
          exact (show ∀ X : Int, m + lenT (s.ths.getD k default) + 1 + X = m + (spB (s.ths.getD k default) + X) from fun X => by rw [hv]; omega) _
        · replace v2 : ((s.ths.getD k default).node != 0) = false := by simpa only [Bool.not_eq_true] using v2
          have hv : spB (s.ths.getD k default) = lenT (s.ths.getD k default) + 0 := by unfold spB; rw [if_neg (by unfold prvB; rw [v1, v2]; simp)]
          repeat' ((conv => lhs; whnf); first | (with_reducible refine evOps_cons.trans ?_) | (with_reducible refine evOps_nil.trans ?_) | (with_reducible refine ev_seq.trans ?_) | (with_reducible refine ev_region.trans ?_) | (with_reducible refine ev_cond.trans ?_) | (with_reducible refine ev_block.trans ?_) | (with_reducible refine ev_loop.trans ?_) | (with_reducible refine ev_exit.trans ?_) | (with_reducible refine ev_ret.trans ?_) | (with_reducible refine ev_skip.trans ?_) | (with_reducible refine ev_draw.trans ?_) | (with_reducible refine evList_cons.trans ?_) | (with_reducible refine evList_nil.trans ?_) | (with_reducible refine (br_true _ _).trans ?_) | (with_reducible refine (br_false _ _).trans ?_) | (with_reducible refine (br_pos (by assumption)).trans ?_) | (with_reducible refine (br_neg (by assumption)).trans ?_) | (with_reducible refine (br_nt (by assumption)).trans ?_) | (with_reducible refine (br_nf (by assumption)).trans ?_) | (refine (getRow_eq r1).trans ?_) | (with_reducible refine (navR_atT r1 (by with_unfolding_all rfl)).trans ?_) | (with_reducible refine (modR_atT r1 (by with_unfolding_all rfl)).trans ?_) | (with_reducible refine (bnd_call (F_impl_isPrivate)).trans ?_) | (with_reducible refine (navR_nil _ _ _).trans ?_) | (with_reducible refine (modR_nil _ _ _).trans ?_) | fail)
          conv => lhs; whnf
          refine (IH (k + 1, m + lenT (s.ths.getD k default)) _ _ ⟨hlt, by show 0 ≤ m + lenT (s.ths.getD k default); omega, by show m + lenT (s.ths.getD k default) ≤ 2097152 + 3145729 * ((k + 1 : Nat) : Int); omega⟩ (by show _ - _ < _ - _; omega) (by rw [hw, hs0]; rfl) rfl).trans ?_
          refine okI ?_
          exact (show ∀ X : Int, m + lenT (s.ths.getD k default) + X = m + (spB (s.ths.getD k default) + X) from fun X => by rw [hv]; omega) _
      · replace v1 : inB (s.ths.getD k default).pc 32 42 = false := by simpa only [Bool.not_eq_true] using v1
        have hv : spB (s.ths.getD k default) = lenT (s.ths.getD k default) + 0 := by unfold spB; rw [if_neg (by unfold prvB; rw [v1]; simp)]
        repeat' ((conv => lhs; whnf); first | (with_reducible refine evOps_cons.trans ?_) | (with_reducible refine evOps_nil.trans ?_) | (with_reducible refine ev_seq.trans ?_) | (with_reducible refine ev_region.trans ?_) | (with_reducible refine ev_cond.trans ?_) | (with_reducible refine ev_block.trans ?_) | (with_reducible refine ev_loop.trans ?_) | (with_reducible refine ev_exit.trans ?_) | (with_reducible refine ev_ret.trans ?_) | (with_reducible refine ev_skip.trans ?_) | (with_reducible refine ev_draw.trans ?_) | (with_reducible refine evList_cons.trans ?_) | (with_reducible refine evList_nil.trans ?_) | (with_reducible refine (br_true _ _).trans ?_) | (with_reducible refine (br_false _ _).trans ?_) | (with_reducible refine (br_pos (by assumption)).trans ?_) | (with_reducible refine (br_neg (by assumption)).trans ?_) | (with_reducible refine (br_nt (by assumption)).trans ?_) | (with_reducible refine (br_nf (by assumption)).trans ?_) | (refine (getRow_eq r1).trans ?_) | (with_reducible refine (navR_atT r1 (by with_unfolding_all rfl)).trans ?_) | (with_reducible refine (modR_atT r1 (by with_unfolding_all rfl)).trans ?_) | (with_reducible refine (bnd_call (F_impl_isPrivate)).trans ?_) | (with_reducible refine (navR_nil _ _ _).trans ?_) | (with_reducible refine (modR_nil _ _ _).trans ?_) | fail)
        conv => lhs; whnf
        refine (IH (k + 1, m + lenT (s.ths.getD k default)) _ _ ⟨hlt, by show 0 ≤ m + lenT (s.ths.getD k default); omega, by show m + lenT (s.ths.getD k default) ≤ 2097152 + 3145729 * ((k + 1 : Nat) : Int); omega⟩ (by show _ - _ < _ - _; omega) (by rw [hw, hs0]; rfl) rfl).trans ?_
        refine okI ?_
        exact (show ∀ X : Int, m + lenT (s.ths.getD k default) + X = m + (spB (s.ths.getD k default) + X) from fun X => by rw [hv]; omega) _
    · have e1 := nlt_map (f := thA) (Nat.le_of_not_lt hlt)
      rw [List.drop_eq_nil_of_le (by omega)]
      repeat' ((conv => lhs; whnf); first | (with_reducible refine evOps_cons.trans ?_) | (with_reducible refine evOps_nil.trans ?_) | (with_reducible refine ev_seq.trans ?_) | (with_reducible refine ev_region.trans ?_) | (with_reducible refine ev_cond.trans ?_) | (with_reducible refine ev_block.trans ?_) | (with_reducible refine ev_loop.trans ?_) | (with_reducible refine ev_exit.trans ?_) | (with_reducible refine ev_ret.trans ?_) | (with_reducible refine ev_skip.trans ?_) | (with_reducible refine ev_draw.trans ?_) | (with_reducible refine evList_cons.trans ?_) | (with_reducible refine evList_nil.trans ?_) | (with_reducible refine (br_true _ _).trans ?_) | (with_reducible refine (br_false _ _).trans ?_) | (with_reducible refine (br_pos (by assumption)).trans ?_) | (with_reducible refine (br_neg (by assumption)).trans ?_) | (with_reducible refine (br_nt (by assumption)).trans ?_) | (with_reducible refine (br_nf (by assumption)).trans ?_) | (with_reducible refine (navR_nil _ _ _).trans ?_) | (with_reducible refine (modR_nil _ _ _).trans ?_) | fail)
      conv => lhs; whnf
      refine okI ?_
      show m = m + 0
      omega
  · replace hs : staB s = false := by simpa only [Bool.not_eq_true] using hs
    rw [if_neg (by rw [hs]; simp)]
    repeat' ((conv => lhs; whnf); first | (with_reducible refine evOps_cons.trans ?_) | (with_reducible refine evOps_nil.trans ?_) | (with_reducible refine ev_seq.trans ?_) | (with_reducible refine ev_region.trans ?_) | (with_reducible refine ev_cond.trans ?_) | (with_reducible refine ev_block.trans ?_) | (with_reducible refine ev_loop.trans ?_) | (with_reducible refine ev_exit.trans ?_) | (with_reducible refine ev_ret.trans ?_) | (with_reducible refine ev_skip.trans ?_) | (with_reducible refine ev_draw.trans ?_) | (with_reducible refine evList_cons.trans ?_) | (with_reducible refine evList_nil.trans ?_) | (with_reducible refine (br_true _ _).trans ?_) | (with_reducible refine (br_false _ _).trans ?_) | (with_reducible refine (br_pos (by assumption)).trans ?_) | (with_reducible refine (br_neg (by assumption)).trans ?_) | (with_reducible refine (br_nt (by assumption)).trans ?_) | (with_reducible refine (br_nf (by assumption)).trans ?_) | (with_reducible refine (bnd_call (F_impl_IsState hr hi)).trans ?_) | (with_reducible refine (navR_nil _ _ _).trans ?_) | (with_reducible refine (modR_nil _ _ _).trans ?_) | fail)
    conv => lhs; whnf
set_option maxHeartbeats 4000000 in
theorem F_spec_SpaceBound {n : Nat} {s : Sta} (hr : s.room) (hi : s.i64) : callP cfg (n+8) 17 [.agg (staA s)] = some ⟨.int .i64 (spaceV s), []⟩ := by
  rw [callP_succ]
  have hl := hr.2.2.1
  have hu := unrV_le (s := s)
  unfold spaceV
  by_cases hs : staB s = true
  · rw [if_pos hs]
    have hc : isCfB s.c = true := by unfold staB at hs; exact (Bool.and_eq_true_iff.1 hs).1
    have hb := isCf_bd hc
    have h00 : IntKind.i64.wrap (s.c.keys + unrV s) = s.c.keys + unrV s := wrapI (by omega) (by omega)
    repeat' ((conv => lhs; whnf); first | (with_reducible refine evOps_cons.trans ?_) | (with_reducible refine evOps_nil.trans ?_) | (with_reducible refine ev_seq.trans ?_) | (with_reducible refine ev_region.trans ?_) | (with_reducible refine ev_cond.trans ?_) | (with_reducible refine ev_block.trans ?_) | (with_reducible refine ev_loop.trans ?_) | (with_reducible refine ev_exit.trans ?_) | (with_reducible refine ev_ret.trans ?_) | (with_reducible refine ev_skip.trans ?_) | (with_reducible refine ev_draw.trans ?_) | (with_reducible refine evList_cons.trans ?_) | (with_reducible refine evList_nil.trans ?_) | (with_reducible refine (br_true _ _).trans ?_) | (with_reducible refine (br_false _ _).trans ?_) | (with_reducible refine (br_pos (by assumption)).trans ?_) | (with_reducible refine (br_neg (by assumption)).trans ?_) | (with_reducible refine (br_nt (by assumption)).trans ?_) | (with_reducible refine (br_nf (by assumption)).trans ?_) | (with_reducible refine (bnd_call (F_spec_IsState hr hi)).trans ?_) | (with_reducible refine (bnd_call (F_spec_Unretired hr hi)).trans ?_) | (with_reducible refine (navR_nil _ _ _).trans ?_) | (with_reducible refine (modR_nil _ _ _).trans ?_) | fail)

    rw [h00]
    refine (evLoop_gen (fun e (x : Nat × Int) => (e.set 4 (.int .i64 (x.1 : Int))).set 3 (.int .i64 x.2)) (fun h _ => h) (fun x => some ⟨.int .i64 (x.2 + sumT (s.ths.drop x.1)), []⟩) (fun x => x.1 ≤ s.ths.length ∧ 0 ≤ x.2 ∧ x.2 ≤ 2097152 + 3145729 * (x.1 : Int)) (fun x => s.ths.length - x.1) (0, s.c.keys + unrV s) rfl ⟨Nat.zero_le _, by show 0 ≤ s.c.keys + unrV s; omega, by show s.c.keys + unrV s ≤ 2097152 + 3145729 * ((0 : Nat) : Int); omega⟩ (by show _ - _ < 18446744073709551616; omega) ?_).trans rfl
    rintro ⟨k, m⟩ f ⟨hk, h0, h1⟩ IH
    simp only at hk h0 h1 ⊢
    by_cases hlt : k < s.ths.length
    · have e1 := lt_map (f := thA) hlt
      have e2 := nonneg k
      have r1 := map_get (f := thA) hlt
      have hw := wrapS (k := k) (by omega)
      obtain ⟨g1, g2, g3, g4, g5⟩ := hr.2.2.2 _ (getD_mem hlt)
      have hlen : lenT (s.ths.getD k default) = ((s.ths.getD k default).buf.length : Int) + (s.ths.getD k default).work.length + (s.ths.getD k default).limbo.length := rfl
      have hs0 : IntKind.i64.wrap (IntKind.i64.wrap (IntKind.i64.wrap (m + (((s.ths.getD k default).buf.map entA).length : Int)) + (((s.ths.getD k default).work.map entA).length : Int)) + (((s.ths.getD k default).limbo.map iA).length : Int)) = m + lenT (s.ths.getD k default) := by
        simp only [List.length_map]
        rw [wrapI (x := m + ((s.ths.getD k default).buf.length : Int)) (by omega) (by omega), wrapI (x := m + ((s.ths.getD k default).buf.length : Int) + ((s.ths.getD k default).work.length : Int)) (by omega) (by omega), wrapI (x := m + ((s.ths.getD k default).buf.length : Int) + ((s.ths.getD k default).work.length : Int) + ((s.ths.getD k default).limbo.length : Int)) (by omega) (by omega)]; omega
      have hs1 : IntKind.i64.wrap (IntKind.i64.wrap (IntKind.i64.wrap (IntKind.i64.wrap (m + (((s.ths.getD k default).buf.map entA).length : Int)) + (((s.ths.getD k default).work.map entA).length : Int)) + (((s.ths.getD k default).limbo.map iA).length : Int)) + 1) = m + lenT (s.ths.getD k default) + 1 := by
        rw [hs0]; exact wrapI (by omega) (by omega)
      rw [drop_cons hlt, sumT]
      by_cases v1 : prvB (s.ths.getD k default) = true
      · have hv : spB (s.ths.getD k default) = lenT (s.ths.getD k default) + 1 := by unfold spB; rw [if_pos v1]
        repeat' ((conv => lhs; whnf); first | (with_reducible refine evOps_cons.trans ?_) | (with_reducible refine evOps_nil.trans ?_) | (with_reducible refine ev_seq.trans ?_) | (with_reducible refine ev_region.trans ?_) | (with_reducible refine ev_cond.trans ?_) | (with_reducible refine ev_block.trans ?_) | (with_reducible refine ev_loop.trans ?_) | (with_reducible refine ev_exit.trans ?_) | (with_reducible refine ev_ret.trans ?_) | (with_reducible refine ev_skip.trans ?_) | (with_reducible refine ev_draw.trans ?_) | (with_reducible refine evList_cons.trans ?_) | (with_reducible refine evList_nil.trans ?_) | (with_reducible refine (br_true _ _).trans ?_) | (with_reducible refine (br_false _ _).trans ?_) | (with_reducible refine (br_pos (by assumption)).trans ?_) | (with_reducible refine (br_neg (by assumption)).trans ?_) | (with_reducible refine (br_nt (by assumption)).trans ?_) | (with_reducible refine (br_nf (by assumption)).trans ?_) | (refine (getRow_eq r1).trans ?_) | (with_reducible refine (navR_atT r1 (by with_unfolding_all rfl)).trans ?_) | (with_reducible refine (modR_atT r1 (by with_unfolding_all rfl)).trans ?_) | (with_reducible refine (bnd_call (F_spec_l22Private)).trans ?_) | (with_reducible refine (navR_nil _ _ _).trans ?_) | (with_reducible refine (modR_nil _ _ _).trans ?_) | fail)
        conv => lhs; whnf
        refine (IH (k + 1, m + lenT (s.ths.getD k default) + 1) _ _ ⟨hlt, by show 0 ≤ m + lenT (s.ths.getD k default) + 1; omega, by show m + lenT (s.ths.getD k default) + 1 ≤ 2097152 + 3145729 * ((k + 1 : Nat) : Int); omega⟩ (by show _ - _ < _ - _; omega) (by rw [hw, hs1]; rfl) rfl).trans ?_
        refine okI ?_
        exact (show ∀ X : Int, m + lenT (s.ths.getD k default) + 1 + X = m + (spB (s.ths.getD k default) + X) from fun X => by rw [hv]; omega) _
      · have hv : spB (s.ths.getD k default) = lenT (s.ths.getD k default) + 0 := by unfold spB; rw [if_neg v1]
        replace v1 : prvB (s.ths.getD k default) = false := by simpa only [Bool.not_eq_true] using v1
        repeat' ((conv => lhs; whnf); first | (with_reducible refine evOps_cons.trans ?_) | (with_reducible refine evOps_nil.trans ?_) | (with_reducible refine ev_seq.trans ?_) | (with_reducible refine ev_region.trans ?_) | (with_reducible refine ev_cond.trans ?_) | (with_reducible refine ev_block.trans ?_) | (with_reducible refine ev_loop.trans ?_) | (with_reducible refine ev_exit.trans ?_) | (with_reducible refine ev_ret.trans ?_) | (with_reducible refine ev_skip.trans ?_) | (with_reducible refine ev_draw.trans ?_) | (with_reducible refine evList_cons.trans ?_) | (with_reducible refine evList_nil.trans ?_) | (with_reducible refine (br_true _ _).trans ?_) | (with_reducible refine (br_false _ _).trans ?_) | (with_reducible refine (br_pos (by assumption)).trans ?_) | (with_reducible refine (br_neg (by assumption)).trans ?_) | (with_reducible refine (br_nt (by assumption)).trans ?_) | (with_reducible refine (br_nf (by assumption)).trans ?_) | (refine (getRow_eq r1).trans ?_) | (with_reducible refine (navR_atT r1 (by with_unfolding_all rfl)).trans ?_) | (with_reducible refine (modR_atT r1 (by with_unfolding_all rfl)).trans ?_) | (with_reducible refine (bnd_call (F_spec_l22Private)).trans ?_) | (with_reducible refine (navR_nil _ _ _).trans ?_) | (with_reducible refine (modR_nil _ _ _).trans ?_) | fail)
        conv => lhs; whnf
        refine (IH (k + 1, m + lenT (s.ths.getD k default)) _ _ ⟨hlt, by show 0 ≤ m + lenT (s.ths.getD k default); omega, by show m + lenT (s.ths.getD k default) ≤ 2097152 + 3145729 * ((k + 1 : Nat) : Int); omega⟩ (by show _ - _ < _ - _; omega) (by rw [hw, hs0]; rfl) rfl).trans ?_
        refine okI ?_
        exact (show ∀ X : Int, m + lenT (s.ths.getD k default) + X = m + (spB (s.ths.getD k default) + X) from fun X => by rw [hv]; omega) _
    · have e1 := nlt_map (f := thA) (Nat.le_of_not_lt hlt)
      rw [List.drop_eq_nil_of_le (by omega)]
      repeat' ((conv => lhs; whnf); first | (with_reducible refine evOps_cons.trans ?_) | (with_reducible refine evOps_nil.trans ?_) | (with_reducible refine ev_seq.trans ?_) | (with_reducible refine ev_region.trans ?_) | (with_reducible refine ev_cond.trans ?_) | (with_reducible refine ev_block.trans ?_) | (with_reducible refine ev_loop.trans ?_) | (with_reducible refine ev_exit.trans ?_) | (with_reducible refine ev_ret.trans ?_) | (with_reducible refine ev_skip.trans ?_) | (with_reducible refine ev_draw.trans ?_) | (with_reducible refine evList_cons.trans ?_) | (with_reducible refine evList_nil.trans ?_) | (with_reducible refine (br_true _ _).trans ?_) | (with_reducible refine (br_false _ _).trans ?_) | (with_reducible refine (br_pos (by assumption)).trans ?_) | (with_reducible refine (br_neg (by assumption)).trans ?_) | (with_reducible refine (br_nt (by assumption)).trans ?_) | (with_reducible refine (br_nf (by assumption)).trans ?_) | (with_reducible refine (navR_nil _ _ _).trans ?_) | (with_reducible refine (modR_nil _ _ _).trans ?_) | fail)
      conv => lhs; whnf
      refine okI ?_
      show m = m + 0
      omega
  · replace hs : staB s = false := by simpa only [Bool.not_eq_true] using hs
    rw [if_neg (by rw [hs]; simp)]
    repeat' ((conv => lhs; whnf); first | (with_reducible refine evOps_cons.trans ?_) | (with_reducible refine evOps_nil.trans ?_) | (with_reducible refine ev_seq.trans ?_) | (with_reducible refine ev_region.trans ?_) | (with_reducible refine ev_cond.trans ?_) | (with_reducible refine ev_block.trans ?_) | (with_reducible refine ev_loop.trans ?_) | (with_reducible refine ev_exit.trans ?_) | (with_reducible refine ev_ret.trans ?_) | (with_reducible refine ev_skip.trans ?_) | (with_reducible refine ev_draw.trans ?_) | (with_reducible refine evList_cons.trans ?_) | (with_reducible refine evList_nil.trans ?_) | (with_reducible refine (br_true _ _).trans ?_) | (with_reducible refine (br_false _ _).trans ?_) | (with_reducible refine (br_pos (by assumption)).trans ?_) | (with_reducible refine (br_neg (by assumption)).trans ?_) | (with_reducible refine (br_nt (by assumption)).trans ?_) | (with_reducible refine (br_nf (by assumption)).trans ?_) | (with_reducible refine (bnd_call (F_spec_IsState hr hi)).trans ?_) | (with_reducible refine (navR_nil _ _ _).trans ?_) | (with_reducible refine (modR_nil _ _ _).trans ?_) | fail)
    conv => lhs; whnf
set_option maxHeartbeats 4000000 in
theorem F_laws_FnExactSpaceBound {n : Nat} {s : Sta} (hs : s.len) (hi : s.i64) : callP cfg (n+16) 4 [.agg (staA s)] = some ⟨.bool true, []⟩ := by
  rw [callP_succ]
  by_cases hb : szSta s 1048576 < 0
  · have e0 : decide (szSta s 1048576 < 0) = true := by simpa using hb
    repeat' ((conv => lhs; whnf); first | (with_reducible refine evOps_cons.trans ?_) | (with_reducible refine evOps_nil.trans ?_) | (with_reducible refine ev_seq.trans ?_) | (with_reducible refine ev_region.trans ?_) | (with_reducible refine ev_cond.trans ?_) | (with_reducible refine ev_block.trans ?_) | (with_reducible refine ev_loop.trans ?_) | (with_reducible refine ev_exit.trans ?_) | (with_reducible refine ev_ret.trans ?_) | (with_reducible refine ev_skip.trans ?_) | (with_reducible refine ev_draw.trans ?_) | (with_reducible refine evList_cons.trans ?_) | (with_reducible refine evList_nil.trans ?_) | (with_reducible refine (br_true _ _).trans ?_) | (with_reducible refine (br_false _ _).trans ?_) | (with_reducible refine (br_pos (by assumption)).trans ?_) | (with_reducible refine (br_neg (by assumption)).trans ?_) | (with_reducible refine (br_nt (by assumption)).trans ?_) | (with_reducible refine (br_nf (by assumption)).trans ?_) | (with_reducible refine (bnd_call (F_laws_szState hs (by decide) (by decide))).trans ?_) | (with_reducible refine (bnd_call (F_laws_toState hr)).trans ?_) | (with_reducible refine (bnd_call (F_laws_eqState hs)).trans ?_) | (with_reducible refine (bnd_call (F_spec_SpaceBound hr hi)).trans ?_) | (with_reducible refine (bnd_call (F_impl_SpaceBound hr hi)).trans ?_) | (with_reducible refine (navR_nil _ _ _).trans ?_) | (with_reducible refine (modR_nil _ _ _).trans ?_) | fail)
    conv => lhs; whnf
  · have e0 : decide (szSta s 1048576 < 0) = false := by simpa using hb
    have hr := szSta_room (s := s) (by omega)
    have e2 : (!decide (s = s)) = false := by simp
    have e3 : ((spaceV s) != (spaceV s)) = false := bne_f rfl
    repeat' ((conv => lhs; whnf) <;> first | (with_reducible refine (addE_cons _ _ _ _ _ _).trans ?_) | (with_reducible refine (expOps_cons _ _ _ _ _ _ _ _ _ _ _).trans ?_) | (apply bndS_step) | (refine (eqS_self _ _).trans ?_) | (with_reducible refine (addE_nil _ _ _).trans ?_) | (with_reducible refine (expOps_nil _ _ _ _ _ _ _ _ _).trans ?_) | (with_reducible refine (expLvl_cons _ _ _ _ _ _ _ _ _).trans ?_) | (with_reducible refine (expLvl_nil _ _ _ _ _ _).trans ?_) | (with_reducible refine (evDag_cons _ _ _ _ _ _ _ _).trans ?_) | (with_reducible refine (evDag_nil _ _ _ _ _ _).trans ?_) | (with_reducible refine evOps_cons.trans ?_) | (with_reducible refine evOps_nil.trans ?_) | (with_reducible refine ev_seq.trans ?_) | (with_reducible refine ev_region.trans ?_) | (with_reducible refine ev_cond.trans ?_) | (with_reducible refine ev_block.trans ?_) | (with_reducible refine ev_loop.trans ?_) | (with_reducible refine ev_exit.trans ?_) | (with_reducible refine ev_ret.trans ?_) | (with_reducible refine ev_skip.trans ?_) | (with_reducible refine ev_draw.trans ?_) | (with_reducible refine evList_cons.trans ?_) | (with_reducible refine evList_nil.trans ?_) | (with_reducible refine (br_true _ _).trans ?_) | (with_reducible refine (br_false _ _).trans ?_) | (with_reducible refine (br_pos (by assumption)).trans ?_) | (with_reducible refine (br_neg (by assumption)).trans ?_) | (with_reducible refine (br_nt (by assumption)).trans ?_) | (with_reducible refine (br_nf (by assumption)).trans ?_) | (with_reducible refine (bnd_call (F_laws_szState hs (by decide) (by decide))).trans ?_) | (with_reducible refine (bnd_call (F_laws_toState hr)).trans ?_) | (with_reducible refine (bnd_call (F_laws_eqState hs)).trans ?_) | (with_reducible refine (bnd_call (F_spec_SpaceBound hr hi)).trans ?_) | (with_reducible refine (bnd_call (F_impl_SpaceBound hr hi)).trans ?_) | (with_reducible refine (navR_nil _ _ _).trans ?_) | (with_reducible refine (modR_nil _ _ _).trans ?_) | fail)
    all_goals (conv => lhs; whnf)
end Go.Proofs.Ytpmlbimlndphhaa.A
