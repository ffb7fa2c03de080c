/- What the functions of the states answer, part 10: no condition. -/
import Derived.Test.YtpmlbimlndphhaaGnJ
set_option linter.unusedVariables false
set_option linter.unusedSimpArgs false
/- Runs that go on into places that were written. -/
namespace Go.Abs
theorem navR_cons {i j : Nat} {p : Path} {sz : Nat} {rows : Rows} {k : Nat → Rows → R} : navR ((i, j) :: p) sz rows k = getRow rows i fun row => getE row j fun v => match v with
    | .lst sz' rows' => navR p sz' rows' k
    | _ => none := by rw [navR_eq0]; rfl
theorem modR_cons {i j : Nat} {p : Path} {rows : Rows} {f : Rows → (Rows → R) → R} {k : Rows → R} : modR ((i, j) :: p) rows f k = getRow rows i fun row => getE row j fun v => match v with
    | .lst sz' rows' => modR p rows' f fun rows'' => setRC rows i j (.lst sz' rows'') k
    | _ => none := by rw [modR_eq0]; rfl
theorem gx {x y r : R} (k : y = r) (h : Ru x (W y) := by (repeat' ((conv => arg 1; whnf); first | (with_reducible first | refine Ru.st (evOps_cons) ?_ | refine Ru.st (evOps_nil) ?_ | refine Ru.st (ev_seq) ?_ | refine Ru.st (ev_region) ?_ | refine Ru.st (ev_cond) ?_ | refine Ru.st (ev_block) ?_ | refine Ru.st (ev_loop) ?_ | refine Ru.st (ev_exit) ?_ | refine Ru.st (ev_ret) ?_ | refine Ru.st (ev_skip) ?_ | refine Ru.st (ev_draw) ?_ | refine Ru.st (evList_cons) ?_ | refine Ru.st (evList_nil) ?_ | refine Ru.st (br_true _ _) ?_ | refine Ru.st (br_false _ _) ?_ | refine Ru.st (br_pos (by assumption)) ?_ | refine Ru.st (br_neg (by assumption)) ?_ | refine Ru.st (br_nt (by assumption)) ?_ | refine Ru.st (br_nf (by assumption)) ?_) | (with_reducible first | refine Ru.st (bnd_call fq1) ?_ | refine Ru.st (bnd_call fq2) ?_ | refine Ru.st (bnd_call fq3) ?_ | refine Ru.st (bnd_call fq4) ?_ | refine Ru.st (bnd_call fq5) ?_ | refine Ru.st (bnd_call fq6) ?_ | refine Ru.st (bnd_call fq7) ?_ | refine Ru.st (bnd_call fq8) ?_ | refine Ru.st (bnd_call fq9) ?_ | refine Ru.st (bnd_call fq10) ?_ | refine Ru.st (bnd_call fq11) ?_ | refine Ru.st (bnd_call fq12) ?_ | refine Ru.st (getRow_eqI r0 (by with_unfolding_all rfl)) ?_ | refine Ru.st (getRow_eqI r1 (by with_unfolding_all rfl)) ?_ | refine Ru.st (getRow_eqI r2 (by with_unfolding_all rfl)) ?_ | refine Ru.st (getRow_eqI r3 (by with_unfolding_all rfl)) ?_ | refine Ru.st (getRow_eqI r4 (by with_unfolding_all rfl)) ?_ | refine Ru.st (getRow_eqI r5 (by with_unfolding_all rfl)) ?_ | refine Ru.st (getRow_eqI r6 (by with_unfolding_all rfl)) ?_ | refine Ru.st (getRow_eqI r7 (by with_unfolding_all rfl)) ?_ | refine Ru.st (getRow_eqI r8 (by with_unfolding_all rfl)) ?_ | refine Ru.st (getRow_eqI r9 (by with_unfolding_all rfl)) ?_ | refine Ru.st (navR_atT r0 (by with_unfolding_all rfl)) ?_ | refine Ru.st (modR_atT r0 (by with_unfolding_all rfl)) ?_ | refine Ru.st (navR_atT r1 (by with_unfolding_all rfl)) ?_ | refine Ru.st (modR_atT r1 (by with_unfolding_all rfl)) ?_ | refine Ru.st (navR_atT r2 (by with_unfolding_all rfl)) ?_ | refine Ru.st (modR_atT r2 (by with_unfolding_all rfl)) ?_ | refine Ru.st (navR_atT r3 (by with_unfolding_all rfl)) ?_ | refine Ru.st (modR_atT r3 (by with_unfolding_all rfl)) ?_ | refine Ru.st (navR_atT r4 (by with_unfolding_all rfl)) ?_ | refine Ru.st (modR_atT r4 (by with_unfolding_all rfl)) ?_ | refine Ru.st (navR_atT r5 (by with_unfolding_all rfl)) ?_ | refine Ru.st (modR_atT r5 (by with_unfolding_all rfl)) ?_ | refine Ru.st (navR_atT r6 (by with_unfolding_all rfl)) ?_ | refine Ru.st (modR_atT r6 (by with_unfolding_all rfl)) ?_ | refine Ru.st (navR_atT r7 (by with_unfolding_all rfl)) ?_ | refine Ru.st (modR_atT r7 (by with_unfolding_all rfl)) ?_ | refine Ru.st (navR_atT r8 (by with_unfolding_all rfl)) ?_ | refine Ru.st (modR_atT r8 (by with_unfolding_all rfl)) ?_ | refine Ru.st (navR_atT r9 (by with_unfolding_all rfl)) ?_ | refine Ru.st (modR_atT r9 (by with_unfolding_all rfl)) ?_ | refine Ru.st (getRow_setI hL (by with_unfolding_all rfl)) ?_ | refine Ru.st (getRow_setI hM (by with_unfolding_all rfl)) ?_ | refine Ru.st (navR_nil _ _ _) ?_ | refine Ru.st (modR_nil _ _ _) ?_ | refine Ru.st (navR_cons) ?_ | refine Ru.st (modR_cons) ?_) | (with_reducible refine Ru.setS hL (by with_unfolding_all rfl) ?_) | (with_reducible refine Ru.setA st1 (by with_unfolding_all rfl) ?_) | (with_reducible refine Ru.setA st2 (by with_unfolding_all rfl) ?_) | (with_reducible refine Ru.setA st3 (by with_unfolding_all rfl) ?_) | (with_reducible refine Ru.setS hM (by with_unfolding_all rfl) ?_) | (refine Ru.st (x1) ?_) | (refine Ru.st (x2) ?_) | (refine Ru.st (x3) ?_) | (refine Ru.st (x4) ?_) | (refine Ru.st (x5) ?_) | (refine Ru.st (x6) ?_) | (refine Ru.st (x7) ?_) | (refine Ru.st (x8) ?_) | (refine Ru.st (getRow_eq r0) ?_) | (refine Ru.st (getRow_eq r1) ?_) | (refine Ru.st (getRow_eq r2) ?_) | (refine Ru.st (getRow_eq r3) ?_) | (refine Ru.st (getRow_eq r4) ?_) | (refine Ru.st (getRow_eq r5) ?_) | (refine Ru.st (getRow_eq r6) ?_) | (refine Ru.st (getRow_eq r7) ?_) | (refine Ru.st (getRow_eq r8) ?_) | (refine Ru.st (getRow_eq r9) ?_) | (refine Ru.st (getRow_set hL) ?_) | (refine Ru.st (setRC_set hL (Nat.le_of_ble_eq_true rfl)) ?_) | (refine Ru.st (setRC_at st1 (Nat.le_of_ble_eq_true rfl)) ?_) | (refine Ru.st (setRC_at st2 (Nat.le_of_ble_eq_true rfl)) ?_) | (refine Ru.st (setRC_at st3 (Nat.le_of_ble_eq_true rfl)) ?_) | (with_reducible refine Ru.st (br_pos (by with_unfolding_all rfl)) ?_))); all_goals (try ((try (conv => arg 1; whnf)); exact Ru.rf _))) : x = r := h.eqW.trans k
theorem gxS {x y r : R} (k : y = r) (h : Ru x (W y) := by (repeat' ((conv => arg 1; whnf); first | (with_reducible first | refine Ru.st (evOps_cons) ?_ | refine Ru.st (evOps_nil) ?_ | refine Ru.st (ev_seq) ?_ | refine Ru.st (ev_region) ?_ | refine Ru.st (ev_cond) ?_ | refine Ru.st (ev_block) ?_ | refine Ru.st (ev_loop) ?_ | refine Ru.st (ev_exit) ?_ | refine Ru.st (ev_ret) ?_ | refine Ru.st (ev_skip) ?_ | refine Ru.st (ev_draw) ?_ | refine Ru.st (evList_cons) ?_ | refine Ru.st (evList_nil) ?_ | refine Ru.st (br_true _ _) ?_ | refine Ru.st (br_false _ _) ?_ | refine Ru.st (br_pos (by assumption)) ?_ | refine Ru.st (br_neg (by assumption)) ?_ | refine Ru.st (br_nt (by assumption)) ?_ | refine Ru.st (br_nf (by assumption)) ?_) | (with_reducible first | refine Ru.st (bnd_call fq1) ?_ | refine Ru.st (bnd_call fq2) ?_ | refine Ru.st (bnd_call fq3) ?_ | refine Ru.st (bnd_call fq4) ?_ | refine Ru.st (bnd_call fq5) ?_ | refine Ru.st (bnd_call fq6) ?_ | refine Ru.st (bnd_call fq7) ?_ | refine Ru.st (bnd_call fq8) ?_ | refine Ru.st (bnd_call fq9) ?_ | refine Ru.st (bnd_call fq10) ?_ | refine Ru.st (bnd_call fq11) ?_ | refine Ru.st (bnd_call fq12) ?_ | refine Ru.st (getRow_eqI r0 (by with_unfolding_all rfl)) ?_ | refine Ru.st (getRow_eqI r1 (by with_unfolding_all rfl)) ?_ | refine Ru.st (getRow_eqI r2 (by with_unfolding_all rfl)) ?_ | refine Ru.st (getRow_eqI r3 (by with_unfolding_all rfl)) ?_ | refine Ru.st (getRow_eqI r4 (by with_unfolding_all rfl)) ?_ | refine Ru.st (getRow_eqI r5 (by with_unfolding_all rfl)) ?_ | refine Ru.st (getRow_eqI r6 (by with_unfolding_all rfl)) ?_ | refine Ru.st (getRow_eqI r7 (by with_unfolding_all rfl)) ?_ | refine Ru.st (getRow_eqI r8 (by with_unfolding_all rfl)) ?_ | refine Ru.st (getRow_eqI r9 (by with_unfolding_all rfl)) ?_ | refine Ru.st (navR_atT r0 (by with_unfolding_all rfl)) ?_ | refine Ru.st (modR_atT r0 (by with_unfolding_all rfl)) ?_ | refine Ru.st (navR_atT r1 (by with_unfolding_all rfl)) ?_ | refine Ru.st (modR_atT r1 (by with_unfolding_all rfl)) ?_ | refine Ru.st (navR_atT r2 (by with_unfolding_all rfl)) ?_ | refine Ru.st (modR_atT r2 (by with_unfolding_all rfl)) ?_ | refine Ru.st (navR_atT r3 (by with_unfolding_all rfl)) ?_ | refine Ru.st (modR_atT r3 (by with_unfolding_all rfl)) ?_ | refine Ru.st (navR_atT r4 (by with_unfolding_all rfl)) ?_ | refine Ru.st (modR_atT r4 (by with_unfolding_all rfl)) ?_ | refine Ru.st (navR_atT r5 (by with_unfolding_all rfl)) ?_ | refine Ru.st (modR_atT r5 (by with_unfolding_all rfl)) ?_ | refine Ru.st (navR_atT r6 (by with_unfolding_all rfl)) ?_ | refine Ru.st (modR_atT r6 (by with_unfolding_all rfl)) ?_ | refine Ru.st (navR_atT r7 (by with_unfolding_all rfl)) ?_ | refine Ru.st (modR_atT r7 (by with_unfolding_all rfl)) ?_ | refine Ru.st (navR_atT r8 (by with_unfolding_all rfl)) ?_ | refine Ru.st (modR_atT r8 (by with_unfolding_all rfl)) ?_ | refine Ru.st (navR_atT r9 (by with_unfolding_all rfl)) ?_ | refine Ru.st (modR_atT r9 (by with_unfolding_all rfl)) ?_ | refine Ru.st (getRow_setI hL (by with_unfolding_all rfl)) ?_ | refine Ru.st (getRow_setI hM (by with_unfolding_all rfl)) ?_ | refine Ru.st (navR_nil _ _ _) ?_ | refine Ru.st (modR_nil _ _ _) ?_ | refine Ru.st (navR_cons) ?_ | refine Ru.st (modR_cons) ?_) | (with_reducible refine Ru.setS hL (by with_unfolding_all rfl) ?_) | (with_reducible refine Ru.setA st1 (by with_unfolding_all rfl) ?_) | (with_reducible refine Ru.setA st2 (by with_unfolding_all rfl) ?_) | (with_reducible refine Ru.setA st3 (by with_unfolding_all rfl) ?_) | (with_reducible refine Ru.setS hM (by with_unfolding_all rfl) ?_) | (refine Ru.st (x1) ?_) | (refine Ru.st (x2) ?_) | (refine Ru.st (x3) ?_) | (refine Ru.st (x4) ?_) | (refine Ru.st (x5) ?_) | (refine Ru.st (x6) ?_) | (refine Ru.st (x7) ?_) | (refine Ru.st (x8) ?_) | (refine Ru.st (getRow_eq r0) ?_) | (refine Ru.st (getRow_eq r1) ?_) | (refine Ru.st (getRow_eq r2) ?_) | (refine Ru.st (getRow_eq r3) ?_) | (refine Ru.st (getRow_eq r4) ?_) | (refine Ru.st (getRow_eq r5) ?_) | (refine Ru.st (getRow_eq r6) ?_) | (refine Ru.st (getRow_eq r7) ?_) | (refine Ru.st (getRow_eq r8) ?_) | (refine Ru.st (getRow_eq r9) ?_) | (refine Ru.st (getRow_set hL) ?_) | (refine Ru.st (setRC_set hL (Nat.le_of_ble_eq_true rfl)) ?_) | (refine Ru.st (setRC_at st1 (Nat.le_of_ble_eq_true rfl)) ?_) | (refine Ru.st (setRC_at st2 (Nat.le_of_ble_eq_true rfl)) ?_) | (refine Ru.st (setRC_at st3 (Nat.le_of_ble_eq_true rfl)) ?_) | (with_reducible refine Ru.st (br_pos (by with_unfolding_all rfl)) ?_) | (apply Ru.br (fun _ => ?_) (fun _ => ?_)))); all_goals (try ((try (conv => arg 1; whnf)); exact Ru.rf _))) : x = r := h.eqW.trans k
theorem gxD {x y r : R} (k : y = r) (h : Ru x (W y) := by (repeat' ((conv => arg 1; whnf); first | (with_reducible refine Ru.st (addE_cons _ _ _ _ _ _) ?_) | (with_reducible refine Ru.st (expOps_cons _ _ _ _ _ _ _ _ _ _ _) ?_) | (with_reducible exact Ru.enc _) | (apply Ru.bndS) | (refine Ru.st (eqS_self _ _) ?_) | (with_reducible refine Ru.st (addE_nil _ _ _) ?_) | (with_reducible refine Ru.st (expOps_nil _ _ _ _ _ _ _ _ _) ?_) | (with_reducible refine Ru.st (expLvl_cons _ _ _ _ _ _ _ _ _) ?_) | (with_reducible refine Ru.st (expLvl_nil _ _ _ _ _ _) ?_) | (with_reducible refine Ru.st (evDag_cons _ _ _ _ _ _ _ _) ?_) | (with_reducible refine Ru.st (evDag_nil _ _ _ _ _ _) ?_) | (with_reducible first | refine Ru.st (evOps_cons) ?_ | refine Ru.st (evOps_nil) ?_ | refine Ru.st (ev_seq) ?_ | refine Ru.st (ev_region) ?_ | refine Ru.st (ev_cond) ?_ | refine Ru.st (ev_block) ?_ | refine Ru.st (ev_loop) ?_ | refine Ru.st (ev_exit) ?_ | refine Ru.st (ev_ret) ?_ | refine Ru.st (ev_skip) ?_ | refine Ru.st (ev_draw) ?_ | refine Ru.st (evList_cons) ?_ | refine Ru.st (evList_nil) ?_ | refine Ru.st (br_true _ _) ?_ | refine Ru.st (br_false _ _) ?_ | refine Ru.st (br_pos (by assumption)) ?_ | refine Ru.st (br_neg (by assumption)) ?_ | refine Ru.st (br_nt (by assumption)) ?_ | refine Ru.st (br_nf (by assumption)) ?_) | (with_reducible first | refine Ru.st (bnd_call fq1) ?_ | refine Ru.st (bnd_call fq2) ?_ | refine Ru.st (bnd_call fq3) ?_ | refine Ru.st (bnd_call fq4) ?_ | refine Ru.st (bnd_call fq5) ?_ | refine Ru.st (bnd_call fq6) ?_ | refine Ru.st (bnd_call fq7) ?_ | refine Ru.st (bnd_call fq8) ?_ | refine Ru.st (bnd_call fq9) ?_ | refine Ru.st (bnd_call fq10) ?_ | refine Ru.st (bnd_call fq11) ?_ | refine Ru.st (bnd_call fq12) ?_ | refine Ru.st (getRow_eqI r0 (by with_unfolding_all rfl)) ?_ | refine Ru.st (getRow_eqI r1 (by with_unfolding_all rfl)) ?_ | refine Ru.st (getRow_eqI r2 (by with_unfolding_all rfl)) ?_ | refine Ru.st (getRow_eqI r3 (by with_unfolding_all rfl)) ?_ | refine Ru.st (getRow_eqI r4 (by with_unfolding_all rfl)) ?_ | refine Ru.st (getRow_eqI r5 (by with_unfolding_all rfl)) ?_ | refine Ru.st (getRow_eqI r6 (by with_unfolding_all rfl)) ?_ | refine Ru.st (getRow_eqI r7 (by with_unfolding_all rfl)) ?_ | refine Ru.st (getRow_eqI r8 (by with_unfolding_all rfl)) ?_ | refine Ru.st (getRow_eqI r9 (by with_unfolding_all rfl)) ?_ | refine Ru.st (navR_atT r0 (by with_unfolding_all rfl)) ?_ | refine Ru.st (modR_atT r0 (by with_unfolding_all rfl)) ?_ | refine Ru.st (navR_atT r1 (by with_unfolding_all rfl)) ?_ | refine Ru.st (modR_atT r1 (by with_unfolding_all rfl)) ?_ | refine Ru.st (navR_atT r2 (by with_unfolding_all rfl)) ?_ | refine Ru.st (modR_atT r2 (by with_unfolding_all rfl)) ?_ | refine Ru.st (navR_atT r3 (by with_unfolding_all rfl)) ?_ | refine Ru.st (modR_atT r3 (by with_unfolding_all rfl)) ?_ | refine Ru.st (navR_atT r4 (by with_unfolding_all rfl)) ?_ | refine Ru.st (modR_atT r4 (by with_unfolding_all rfl)) ?_ | refine Ru.st (navR_atT r5 (by with_unfolding_all rfl)) ?_ | refine Ru.st (modR_atT r5 (by with_unfolding_all rfl)) ?_ | refine Ru.st (navR_atT r6 (by with_unfolding_all rfl)) ?_ | refine Ru.st (modR_atT r6 (by with_unfolding_all rfl)) ?_ | refine Ru.st (navR_atT r7 (by with_unfolding_all rfl)) ?_ | refine Ru.st (modR_atT r7 (by with_unfolding_all rfl)) ?_ | refine Ru.st (navR_atT r8 (by with_unfolding_all rfl)) ?_ | refine Ru.st (modR_atT r8 (by with_unfolding_all rfl)) ?_ | refine Ru.st (navR_atT r9 (by with_unfolding_all rfl)) ?_ | refine Ru.st (modR_atT r9 (by with_unfolding_all rfl)) ?_ | refine Ru.st (getRow_setI hL (by with_unfolding_all rfl)) ?_ | refine Ru.st (getRow_setI hM (by with_unfolding_all rfl)) ?_ | refine Ru.st (navR_nil _ _ _) ?_ | refine Ru.st (modR_nil _ _ _) ?_ | refine Ru.st (navR_cons) ?_ | refine Ru.st (modR_cons) ?_) | (with_reducible refine Ru.setS hL (by with_unfolding_all rfl) ?_) | (with_reducible refine Ru.setA st1 (by with_unfolding_all rfl) ?_) | (with_reducible refine Ru.setA st2 (by with_unfolding_all rfl) ?_) | (with_reducible refine Ru.setA st3 (by with_unfolding_all rfl) ?_) | (with_reducible refine Ru.setS hM (by with_unfolding_all rfl) ?_) | (refine Ru.st (x1) ?_) | (refine Ru.st (x2) ?_) | (refine Ru.st (x3) ?_) | (refine Ru.st (x4) ?_) | (refine Ru.st (x5) ?_) | (refine Ru.st (x6) ?_) | (refine Ru.st (x7) ?_) | (refine Ru.st (x8) ?_) | (refine Ru.st (getRow_eq r0) ?_) | (refine Ru.st (getRow_eq r1) ?_) | (refine Ru.st (getRow_eq r2) ?_) | (refine Ru.st (getRow_eq r3) ?_) | (refine Ru.st (getRow_eq r4) ?_) | (refine Ru.st (getRow_eq r5) ?_) | (refine Ru.st (getRow_eq r6) ?_) | (refine Ru.st (getRow_eq r7) ?_) | (refine Ru.st (getRow_eq r8) ?_) | (refine Ru.st (getRow_eq r9) ?_) | (refine Ru.st (getRow_set hL) ?_) | (refine Ru.st (setRC_set hL (Nat.le_of_ble_eq_true rfl)) ?_) | (refine Ru.st (setRC_at st1 (Nat.le_of_ble_eq_true rfl)) ?_) | (refine Ru.st (setRC_at st2 (Nat.le_of_ble_eq_true rfl)) ?_) | (refine Ru.st (setRC_at st3 (Nat.le_of_ble_eq_true rfl)) ?_) | (with_reducible refine Ru.st (br_pos (by with_unfolding_all rfl)) ?_))); all_goals (try ((try (conv => arg 1; whnf)); exact Ru.rf _))) : x = r := h.eqW.trans k
theorem gxDS {x y r : R} (k : y = r) (h : Ru x (W y) := by (repeat' ((conv => arg 1; whnf); first | (with_reducible refine Ru.st (addE_cons _ _ _ _ _ _) ?_) | (with_reducible refine Ru.st (expOps_cons _ _ _ _ _ _ _ _ _ _ _) ?_) | (with_reducible exact Ru.enc _) | (apply Ru.bndS) | (refine Ru.st (eqS_self _ _) ?_) | (with_reducible refine Ru.st (addE_nil _ _ _) ?_) | (with_reducible refine Ru.st (expOps_nil _ _ _ _ _ _ _ _ _) ?_) | (with_reducible refine Ru.st (expLvl_cons _ _ _ _ _ _ _ _ _) ?_) | (with_reducible refine Ru.st (expLvl_nil _ _ _ _ _ _) ?_) | (with_reducible refine Ru.st (evDag_cons _ _ _ _ _ _ _ _) ?_) | (with_reducible refine Ru.st (evDag_nil _ _ _ _ _ _) ?_) | (with_reducible first | refine Ru.st (evOps_cons) ?_ | refine Ru.st (evOps_nil) ?_ | refine Ru.st (ev_seq) ?_ | refine Ru.st (ev_region) ?_ | refine Ru.st (ev_cond) ?_ | refine Ru.st (ev_block) ?_ | refine Ru.st (ev_loop) ?_ | refine Ru.st (ev_exit) ?_ | refine Ru.st (ev_ret) ?_ | refine Ru.st (ev_skip) ?_ | refine Ru.st (ev_draw) ?_ | refine Ru.st (evList_cons) ?_ | refine Ru.st (evList_nil) ?_ | refine Ru.st (br_true _ _) ?_ | refine Ru.st (br_false _ _) ?_ | refine Ru.st (br_pos (by assumption)) ?_ | refine Ru.st (br_neg (by assumption)) ?_ | refine Ru.st (br_nt (by assumption)) ?_ | refine Ru.st (br_nf (by assumption)) ?_) | (with_reducible first | refine Ru.st (bnd_call fq1) ?_ | refine Ru.st (bnd_call fq2) ?_ | refine Ru.st (bnd_call fq3) ?_ | refine Ru.st (bnd_call fq4) ?_ | refine Ru.st (bnd_call fq5) ?_ | refine Ru.st (bnd_call fq6) ?_ | refine Ru.st (bnd_call fq7) ?_ | refine Ru.st (bnd_call fq8) ?_ | refine Ru.st (bnd_call fq9) ?_ | refine Ru.st (bnd_call fq10) ?_ | refine Ru.st (bnd_call fq11) ?_ | refine Ru.st (bnd_call fq12) ?_ | refine Ru.st (getRow_eqI r0 (by with_unfolding_all rfl)) ?_ | refine Ru.st (getRow_eqI r1 (by with_unfolding_all rfl)) ?_ | refine Ru.st (getRow_eqI r2 (by with_unfolding_all rfl)) ?_ | refine Ru.st (getRow_eqI r3 (by with_unfolding_all rfl)) ?_ | refine Ru.st (getRow_eqI r4 (by with_unfolding_all rfl)) ?_ | refine Ru.st (getRow_eqI r5 (by with_unfolding_all rfl)) ?_ | refine Ru.st (getRow_eqI r6 (by with_unfolding_all rfl)) ?_ | refine Ru.st (getRow_eqI r7 (by with_unfolding_all rfl)) ?_ | refine Ru.st (getRow_eqI r8 (by with_unfolding_all rfl)) ?_ | refine Ru.st (getRow_eqI r9 (by with_unfolding_all rfl)) ?_ | refine Ru.st (navR_atT r0 (by with_unfolding_all rfl)) ?_ | refine Ru.st (modR_atT r0 (by with_unfolding_all rfl)) ?_ | refine Ru.st (navR_atT r1 (by with_unfolding_all rfl)) ?_ | refine Ru.st (modR_atT r1 (by with_unfolding_all rfl)) ?_ | refine Ru.st (navR_atT r2 (by with_unfolding_all rfl)) ?_ | refine Ru.st (modR_atT r2 (by with_unfolding_all rfl)) ?_ | refine Ru.st (navR_atT r3 (by with_unfolding_all rfl)) ?_ | refine Ru.st (modR_atT r3 (by with_unfolding_all rfl)) ?_ | refine Ru.st (navR_atT r4 (by with_unfolding_all rfl)) ?_ | refine Ru.st (modR_atT r4 (by with_unfolding_all rfl)) ?_ | refine Ru.st (navR_atT r5 (by with_unfolding_all rfl)) ?_ | refine Ru.st (modR_atT r5 (by with_unfolding_all rfl)) ?_ | refine Ru.st (navR_atT r6 (by with_unfolding_all rfl)) ?_ | refine Ru.st (modR_atT r6 (by with_unfolding_all rfl)) ?_ | refine Ru.st (navR_atT r7 (by with_unfolding_all rfl)) ?_ | refine Ru.st (modR_atT r7 (by with_unfolding_all rfl)) ?_ | refine Ru.st (navR_atT r8 (by with_unfolding_all rfl)) ?_ | refine Ru.st (modR_atT r8 (by with_unfolding_all rfl)) ?_ | refine Ru.st (navR_atT r9 (by with_unfolding_all rfl)) ?_ | refine Ru.st (modR_atT r9 (by with_unfolding_all rfl)) ?_ | refine Ru.st (getRow_setI hL (by with_unfolding_all rfl)) ?_ | refine Ru.st (getRow_setI hM (by with_unfolding_all rfl)) ?_ | refine Ru.st (navR_nil _ _ _) ?_ | refine Ru.st (modR_nil _ _ _) ?_ | refine Ru.st (navR_cons) ?_ | refine Ru.st (modR_cons) ?_) | (with_reducible refine Ru.setS hL (by with_unfolding_all rfl) ?_) | (with_reducible refine Ru.setA st1 (by with_unfolding_all rfl) ?_) | (with_reducible refine Ru.setA st2 (by with_unfolding_all rfl) ?_) | (with_reducible refine Ru.setA st3 (by with_unfolding_all rfl) ?_) | (with_reducible refine Ru.setS hM (by with_unfolding_all rfl) ?_) | (refine Ru.st (x1) ?_) | (refine Ru.st (x2) ?_) | (refine Ru.st (x3) ?_) | (refine Ru.st (x4) ?_) | (refine Ru.st (x5) ?_) | (refine Ru.st (x6) ?_) | (refine Ru.st (x7) ?_) | (refine Ru.st (x8) ?_) | (refine Ru.st (getRow_eq r0) ?_) | (refine Ru.st (getRow_eq r1) ?_) | (refine Ru.st (getRow_eq r2) ?_) | (refine Ru.st (getRow_eq r3) ?_) | (refine Ru.st (getRow_eq r4) ?_) | (refine Ru.st (getRow_eq r5) ?_) | (refine Ru.st (getRow_eq r6) ?_) | (refine Ru.st (getRow_eq r7) ?_) | (refine Ru.st (getRow_eq r8) ?_) | (refine Ru.st (getRow_eq r9) ?_) | (refine Ru.st (getRow_set hL) ?_) | (refine Ru.st (setRC_set hL (Nat.le_of_ble_eq_true rfl)) ?_) | (refine Ru.st (setRC_at st1 (Nat.le_of_ble_eq_true rfl)) ?_) | (refine Ru.st (setRC_at st2 (Nat.le_of_ble_eq_true rfl)) ?_) | (refine Ru.st (setRC_at st3 (Nat.le_of_ble_eq_true rfl)) ?_) | (with_reducible refine Ru.st (br_pos (by with_unfolding_all rfl)) ?_) | (apply Ru.br (fun _ => ?_) (fun _ => ?_)))); all_goals (try ((try (conv => arg 1; whnf)); exact Ru.rf _))) : x = r := h.eqW.trans k
end Go.Abs
namespace Go.Proofs.Ytpmlbimlndphhaa.A
open Go Go.Abs
set_option maxRecDepth 100000
def snapsOf : List Th → List Int
  | [] => []
  | t :: l => if decide (t.snap > 0) = true then t.snap :: snapsOf l else snapsOf l
noncomputable def snapV (s : Sta) : List Int := if staB s = true then snapsOf s.ths else []
theorem app_snoc {f : Int → List AV} {l : List Int} {x : Int} : l.map f ++ [f x] = (l ++ [x]).map f := by rw [List.map_append]; rfl
theorem snaps_len : ∀ {l : List Th}, (snapsOf l).length ≤ l.length
  | [] => Nat.le_refl _
  | t :: l => by
    have := snaps_len (l := l)
    rw [snapsOf]
    split
    · rw [List.length_cons, List.length_cons]; omega
    · rw [List.length_cons]; omega
theorem snapV_len {s : Sta} (hr : s.room) : (snapV s).length ≤ 1048576 := by
  unfold snapV
  split
  · exact Nat.le_trans snaps_len hr.2.2.1
  · exact Nat.zero_le _
theorem getD_setT {l : List Th} {i : Nat} {t : Th} (h : i < l.length) : (l.set i t).getD i default = t := by simp [List.getD_eq_getElem?_getD, h]
theorem room_set {s : Sta} {i : Nat} {t : Th} (hs : s.room) (ht : t.room) : ({ s with ths := s.ths.set i t } : Sta).room := by
  obtain ⟨h1, h2, h3, h4⟩ := hs
  refine ⟨h1, h2, by rw [List.length_set]; exact h3, fun u hu => ?_⟩
  rcases List.mem_or_eq_of_mem_set hu with h | h
  · exact h4 u h
  · rw [h]; exact ht
theorem room_at {s : Sta} {i : Nat} (hs : s.room) (h : i < s.ths.length) : (s.ths.getD i default).room := hs.2.2.2 _ (getD_mem h)
theorem thA_found {t : Th} {j : Nat} {k : Int} : thA { t with found := t.found.set j k } = (thA t).set 14 (.lst 1 ((t.found.map iA).set j (iA k))) := by simp only [thA, intsA, List.map_set]; rfl
theorem thA_free {t : Th} {j : Nat} {k : Int} : thA { t with free := t.free.set j k } = (thA t).set 15 (.lst 1 ((t.free.map iA).set j (iA k))) := by simp only [thA, intsA, List.map_set]; rfl
theorem thA_limbo {t : Th} {j : Nat} {k : Int} : thA { t with limbo := t.limbo.set j k } = (thA t).set 18 (.lst 1 ((t.limbo.map iA).set j (iA k))) := by simp only [thA, intsA, List.map_set]; rfl
theorem thA_buf {t : Th} {j : Nat} {e : Ent} : thA { t with buf := t.buf.set j e } = (thA t).set 16 (.lst 4 ((t.buf.map entA).set j (entA e))) := by simp only [thA, entsA, List.map_set]; rfl
theorem thA_work {t : Th} {j : Nat} {e : Ent} : thA { t with work := t.work.set j e } = (thA t).set 17 (.lst 4 ((t.work.map entA).set j (entA e))) := by simp only [thA, entsA, List.map_set]; rfl
theorem staA_cells {s : Sta} {j : Nat} {k : Int} : staA { s with cells := s.cells.set j k } = (staA s).set 6 (.lst 1 ((s.cells.map iA).set j (iA k))) := by simp only [staA, intsA, List.map_set]; rfl
theorem staA_gens {s : Sta} {j : Nat} {k : Int} : staA { s with gens := s.gens.set j k } = (staA s).set 7 (.lst 1 ((s.gens.map iA).set j (iA k))) := by simp only [staA, intsA, List.map_set]; rfl
theorem staA_ths {s : Sta} {i : Nat} {t : Th} : staA { s with ths := s.ths.set i t } = (staA s).set 8 (.lst 19 ((s.ths.map thA).set i (thA t))) := by simp only [staA, thsA, List.map_set]; rfl
def mkL (n : Nat) : List Int := (List.range n).map fun (i : Nat) => 1 + (i : Int)
theorem mkL_len {n : Nat} : (mkL n).length = n := by simp [mkL]
theorem mkL_get {n j : Nat} (h : j < n) : (mkL n)[j]? = some (1 + (j : Int)) := by simp [mkL, h]
theorem mkL_getD {n j : Nat} (h : j < n) : (mkL n).getD j default = 1 + (j : Int) := by rw [List.getD_eq_getElem?_getD, mkL_get h]; rfl
theorem F_impl_LiveSnapshots {n : Nat} {s : Sta} (hr : s.room) (hi : s.i64) : callP cfg (n+14) 20 [.agg (staA s)] = some ⟨intsA (snapV s), []⟩ := by
  rw [callP_succ]
  have hl := hr.2.2.1
  unfold snapV
  by_cases hs : staB s = true
  · rw [if_pos hs]
    have fq1 := fun {n : Nat} => F_impl_IsState (n := n) hr hi
    refine go ?_
    clear fq1
    refine (evLoop_gen (fun e (x : Nat × List Int) => e.set 13 (.int .i64 (x.1 : Int))) (fun h x => h.set 3 (some ⟨false, false, false, 1, x.2.map iA⟩)) (fun x => some ⟨intsA (x.2 ++ snapsOf (s.ths.drop x.1)), []⟩) (fun x => x.1 ≤ s.ths.length ∧ x.2.length ≤ x.1) (fun x => s.ths.length - x.1) (0, []) rfl ⟨Nat.zero_le _, Nat.le_refl _⟩ (by show _ - _ < 18446744073709551616; omega) ?_).trans rfl
    rintro ⟨k, out⟩ f ⟨hk, ho⟩ IH
    simp only at hk ho ⊢
    by_cases hlt : k < s.ths.length
    · have e1 := lt_map (f := thA) hlt
      have e2 := nonneg k
      have r1 := map_get (f := thA) hlt
      have hw := wrapS (k := k) (by omega)
      have e5 : decide (((out.map iA).length + 1) * 8 ≤ roomB) = true := decide_eq_true (by rw [List.length_map]; show _ ≤ 140737488355328; omega)
      rw [drop_cons hlt, snapsOf]
      by_cases hv : decide ((s.ths.getD k default).snap > 0) = true
      · rw [if_pos hv]
        have x1 := fun {x y : R} => br_pos (x := x) (y := y) e5
        refine go ?_
        clear x1
        try with_reducible rfl
        refine (IH (k + 1, out ++ [(s.ths.getD k default).snap]) _ _ ⟨hlt, by show (out ++ _).length ≤ k + 1; rw [List.length_append, List.length_singleton]; omega⟩ (by show _ - _ < _ - _; omega) (by rw [hw]; rfl) (by rw [← app_snoc]; rfl)).trans ?_
        simp only [List.append_assoc, List.singleton_append]
      · rw [if_neg hv]
        replace hv : decide ((s.ths.getD k default).snap > 0) = false := by simpa only [Bool.not_eq_true] using hv
        refine go ?_
        try with_reducible rfl
        exact IH (k + 1, out) _ _ ⟨hlt, by show out.length ≤ k + 1; omega⟩ (by show _ - _ < _ - _; omega) (by rw [hw]; rfl) rfl
    · have e1 := nlt_map (f := thA) (Nat.le_of_not_lt hlt)
      rw [List.drop_eq_nil_of_le (by omega)]
      refine go ?_
      try with_reducible rfl
      simp only [snapsOf, List.append_nil]
  · replace hs : staB s = false := by simpa only [Bool.not_eq_true] using hs
    rw [if_neg (by rw [hs]; simp)]
    have fq1 := fun {n : Nat} => F_impl_IsState (n := n) hr hi
    refine go ?_
    clear fq1
    try with_reducible rfl
    try rfl
theorem F_spec_LiveSnapshots {n : Nat} {s : Sta} (hr : s.room) (hi : s.i64) : callP cfg (n+7) 19 [.agg (staA s)] = some ⟨intsA (snapV s), []⟩ := by
  rw [callP_succ]
  have hl := hr.2.2.1
  unfold snapV
  by_cases hs : staB s = true
  · rw [if_pos hs]
    refine go ?_
    refine (evLoop_gen (fun e (x : Nat × List Int) => e.set 4 (.int .i64 (x.1 : Int))) (fun h x => h.set 3 (some ⟨false, false, false, 1, x.2.map iA⟩)) (fun x => some ⟨intsA (x.2 ++ snapsOf (s.ths.drop x.1)), []⟩) (fun x => x.1 ≤ s.ths.length ∧ x.2.length ≤ x.1) (fun x => s.ths.length - x.1) (0, []) rfl ⟨Nat.zero_le _, Nat.le_refl _⟩ (by show _ - _ < 18446744073709551616; omega) ?_).trans rfl
    rintro ⟨k, out⟩ f ⟨hk, ho⟩ IH
    simp only at hk ho ⊢
    by_cases hlt : k < s.ths.length
    · have e1 := lt_map (f := thA) hlt
      have e2 := nonneg k
      have r1 := map_get (f := thA) hlt
      have hw := wrapS (k := k) (by omega)
      have e5 : decide (((out.map iA).length + 1) * 8 ≤ roomB) = true := decide_eq_true (by rw [List.length_map]; show _ ≤ 140737488355328; omega)
      rw [drop_cons hlt, snapsOf]
      by_cases hv : decide ((s.ths.getD k default).snap > 0) = true
      · rw [if_pos hv]
        have x1 := fun {x y : R} => br_pos (x := x) (y := y) e5
        have fq1 := fun {n : Nat} => F_spec_IsState (n := n) hr hi
        refine go ?_
        clear x1 fq1
        try with_reducible rfl
        refine (IH (k + 1, out ++ [(s.ths.getD k default).snap]) _ _ ⟨hlt, by show (out ++ _).length ≤ k + 1; rw [List.length_append, List.length_singleton]; omega⟩ (by show _ - _ < _ - _; omega) (by rw [hw]; rfl) (by rw [← app_snoc]; rfl)).trans ?_
        simp only [List.append_assoc, List.singleton_append]
      · rw [if_neg hv]
        replace hv : decide ((s.ths.getD k default).snap > 0) = false := by simpa only [Bool.not_eq_true] using hv
        have fq1 := fun {n : Nat} => F_spec_IsState (n := n) hr hi
        refine go ?_
        clear fq1
        try with_reducible rfl
        exact IH (k + 1, out) _ _ ⟨hlt, by show out.length ≤ k + 1; omega⟩ (by show _ - _ < _ - _; omega) (by rw [hw]; rfl) rfl
    · have e1 := nlt_map (f := thA) (Nat.le_of_not_lt hlt)
      rw [List.drop_eq_nil_of_le (by omega)]
      refine go ?_
      try with_reducible rfl
      simp only [snapsOf, List.append_nil]
  · replace hs : staB s = false := by simpa only [Bool.not_eq_true] using hs
    rw [if_neg (by rw [hs]; simp)]
    refine go ?_
    refine (evLoop_run (fun e k => e.set 4 (.int .i64 (k : Int))) (fun h _ => h) (fun _ => some ⟨intsA [], []⟩) 0 (by decide) rfl ?_).trans rfl
    intro k f hk IH
    obtain rfl : k = 0 := by omega
    clear IH hk
    by_cases hlt : 0 < s.ths.length
    · have e1 : decide (((0 : Nat) : Int) < ((s.ths.map thA).length : Int)) = true := lt_map hlt
      have fq1 := fun {n : Nat} => F_spec_IsState (n := n) hr hi
      refine go ?_
      clear fq1
      try with_reducible rfl
      try rfl
    · have e1 : decide (((0 : Nat) : Int) < ((s.ths.map thA).length : Int)) = false := nlt_map (Nat.le_of_not_lt hlt)
      refine go ?_
      try with_reducible rfl
      try rfl
theorem F_laws_heldIntS {n : Nat} {L : Nat} (hL : L ≤ 1048576) : callP cfg (n+1) 24 [intsA (mkL L), .int .i64 1] = some ⟨.int .i64 (1 + (L : Int)), []⟩ := by
  rw [callP_succ]
  refine go ?_
  refine (evLoop_run (fun e j => (e.set 5 (.int .i64 (j : Int))).set 1 (.int .i64 (1 + (j : Int)))) (fun h _ => h) (fun _ => some ⟨.int .i64 (1 + (L : Int)), []⟩) L (by show _ < 18446744073709551616; omega) rfl ?_).trans rfl
  intro j f hj IH
  by_cases hlj : j < L
  · have hlj' : j < (mkL L).length := by rw [mkL_len]; exact hlj
    have d1 := lt_map (f := iA) hlj'
    have d2 := nonneg j
    have r1 : ((mkL L).map iA)[j]? = some (iA (1 + (j : Int))) := by rw [map_get (f := iA) hlj', mkL_getD hlj]
    have d3 : ((1 + (j : Int)) != (1 + (j : Int))) = false := bne_f rfl
    have hw := wrapS (k := j) (by omega)
    have hw2 : IntKind.i64.wrap (1 + (j : Int) + 1) = 1 + ((j + 1 : Nat) : Int) := by rw [wrapI (by omega) (by omega)]; omega
    refine go ?_
    try with_reducible rfl
    exact IH hlj _ _ (by rw [hw, hw2]; rfl) rfl
  · have hj2 : j = L := by omega
    have d1 : decide ((j : Int) < (((mkL L).map iA).length : Int)) = false := nlt_map (f := iA) (by rw [mkL_len]; omega)
    refine go ?_
    try with_reducible rfl
    rw [hj2]
structure Hold (P : Prop) : Prop where
  h : P
end Go.Proofs.Ytpmlbimlndphhaa.A
namespace Go.Proofs.Ytpmlbimlndphhaa.A
open Go Go.Abs
set_option maxRecDepth 100000
set_option maxHeartbeats 16000000 in
noncomputable def LA {n : Nat}{s : Sta}(hs : s.len) (hi : s.i64) : (P1 : Prop) ×' (Hold P1 → callP cfg (n+15) 5 [.agg (staA s)] = some ⟨.bool true, []⟩) := by
  apply PSigma.mk
  intro hP1
  skip
  rw [callP_succ]
  by_cases hb : szSta s 1048576 < 0
  · have e0 : decide (szSta s 1048576 < 0) = true := by simpa using hb
    have fq1 := fun {n : Nat} => F_laws_szState (n := n) (b := 1048576) hs (by decide) (by decide)
    refine go ?_
    clear fq1
    try with_reducible rfl
  · have e0 : decide (szSta s 1048576 < 0) = false := by simpa using hb
    have hr := szSta_room (s := s) (by omega)
    have hsn : (snapV s).length ≤ maxLen := Nat.le_trans (snapV_len hr) (by decide)
    have e3 : (!decide (snapV s = snapV s)) = false := by simp
    have e2 : (!decide (s = s)) = false := by simp
    have fq1 := fun {n : Nat} => F_laws_szState (n := n) (b := 1048576) hs (by decide) (by decide)
    have fq2 := fun {n : Nat} => F_laws_toState (n := n) hr
    have fq3 := fun {n : Nat} {b : Sta} => F_laws_eqState (n := n) (b := b) hs
    have fq4 := fun {n : Nat} => F_spec_LiveSnapshots (n := n) hr hi
    have fq5 := fun {n : Nat} => F_impl_LiveSnapshots (n := n) hr hi
    have fq6 := fun {n : Nat} {ys : List Int} => F_laws_eqIntS (n := n) (ys := ys) hsn
    refine goD ?_
    clear fq1 fq2 fq3 fq4 fq5 fq6
    try with_reducible rfl
    clear hsn e3 e2 e0 hb
    revert hr
    exact hP1.h
end Go.Proofs.Ytpmlbimlndphhaa.A
namespace Go.Proofs.Ytpmlbimlndphhaa.A
open Go Go.Abs
set_option maxRecDepth 100000
set_option maxHeartbeats 16000000 in
noncomputable def LB {n : Nat}{s : Sta}(hs : s.len) (hi : s.i64) : (P1 : Prop) ×' (Hold P1 → (LA (n := n) hs hi).1) := by
  apply PSigma.mk
  intro hP1
  intro hr
  have hn : s.ths.length = s.ths.length := rfl
  have hr' := hr
  have hk0 : (0 : Int) ≤ 1 := by decide
  have hk1 : True := trivial
  have hnl := hr.2.2.1
  refine (evLoop_gen (fun e (x : Nat × Int × Sta) => (e.set 5 (.int .i64 (x.1 : Int))).set 1 (.int .i64 x.2.1)) (fun h x => h.set 5 (some ⟨false, false, true, 13, [staA x.2.2]⟩)) (fun _ => some ⟨.bool true, []⟩) (fun x => x.2.2.room ∧ x.2.2.ths.length = s.ths.length ∧ x.1 ≤ x.2.2.cells.length ∧ 0 ≤ x.2.1 ∧ x.2.1 ≤ 1 + (x.1 : Int)) (fun x => x.2.2.cells.length - x.1) (0, 1, s) rfl ⟨hr', hn, Nat.zero_le _, hk0, by show 1 ≤ 1 + ((0 : Nat) : Int); omega⟩ (by have := hr'; unfold Sta.room at this; show (s : Sta).cells.length - 0 < 18446744073709551616; omega) ?_).trans rfl
  clear hk1
  rintro ⟨j, k, s'⟩ IHAf ⟨hr', hn, hj, hk0, hk1⟩ IHA
  simp only at hr' hn hj hk0 hk1
  obtain ⟨g1, g2, g3, g4⟩ := hr'
  by_cases hlj : j < s'.cells.length
  · have d1 := lt_map (f := iA) hlj
    have d2 := nonneg j
    have r2 := map_get (f := iA) hlj
    have hwj := wrapS (k := j) (by omega)
    have w1 : IntKind.i64.wrap (k + 1) = k + 1 := by rw [wrapI (by omega) (by omega)]; first | done | omega
    have st1 := r2
    refine go ?_
    clear st1
    try with_reducible rfl
    refine IHA (j + 1, IntKind.i64.wrap (k + 1), { s' with cells := s'.cells.set j k }) _ _ ⟨⟨by first | exact g1 | (show (s'.cells.set j k).length ≤ _; rw [List.length_set]; exact g1), by first | exact g2 | (show (s'.cells.set j k).length ≤ _; rw [List.length_set]; exact g2), g3, g4⟩, hn, by show j + 1 ≤ (s'.cells.set j k).length; rw [List.length_set]; exact hlj, by show 0 ≤ IntKind.i64.wrap (k + 1); rw [w1]; omega, by show IntKind.i64.wrap (k + 1) ≤ 1 + ((j + 1 : Nat) : Int); rw [w1]; omega⟩ (by show (s'.cells.set j k).length - (j + 1) < s'.cells.length - j; rw [List.length_set]; omega) (by rw [hwj]; rfl) (by rw [staA_cells]; first | done | rfl)
  · have d1 := nlt_map (f := iA) (Nat.le_of_not_lt hlj)
    have hj1 : j ≤ 1048576 := by omega
    have hr' : s'.room := ⟨g1, g2, g3, g4⟩
    replace hk1 : k ≤ 1 + 1048576 := by omega
    refine go ?_
    clear hlj d1 IHA hj g1 g2 g3 g4
    clear hnl
    revert hk1
    revert hk0
    revert hn
    revert hr'
    revert hj1
    revert s'
    revert k
    revert j
    revert hr
    exact hP1.h
end Go.Proofs.Ytpmlbimlndphhaa.A
namespace Go.Proofs.Ytpmlbimlndphhaa.A
open Go Go.Abs
set_option maxRecDepth 100000
set_option maxHeartbeats 16000000 in
noncomputable def LC {n : Nat}{s : Sta}(hs : s.len) (hi : s.i64) : (P1 : Prop) ×' (Hold P1 → (LB (n := n) hs hi).1) := by
  apply PSigma.mk
  intro hP1
  intro hr j0 k0 s0 hj0 hr' hn hk0 hk1
  have hnl := hr.2.2.1
  refine (evLoop_gen (fun e (x : Nat × Int × Sta) => (e.set 5 (.int .i64 (x.1 : Int))).set 1 (.int .i64 x.2.1)) (fun h x => h.set 5 (some ⟨false, false, true, 13, [staA x.2.2]⟩)) (fun _ => some ⟨.bool true, []⟩) (fun x => x.2.2.room ∧ x.2.2.ths.length = s.ths.length ∧ x.1 ≤ x.2.2.gens.length ∧ 0 ≤ x.2.1 ∧ x.2.1 ≤ 1048577 + (x.1 : Int)) (fun x => x.2.2.gens.length - x.1) (0, k0, s0) rfl ⟨hr', hn, Nat.zero_le _, hk0, by show k0 ≤ 1048577 + ((0 : Nat) : Int); omega⟩ (by have := hr'; unfold Sta.room at this; show (s0 : Sta).gens.length - 0 < 18446744073709551616; omega) ?_).trans rfl
  clear hk1 hk0 hn hr'
  rintro ⟨j, k, s'⟩ IHBf ⟨hr', hn, hj, hk0, hk1⟩ IHB
  simp only at hr' hn hj hk0 hk1
  obtain ⟨g1, g2, g3, g4⟩ := hr'
  by_cases hlj : j < s'.gens.length
  · have d1 := lt_map (f := iA) hlj
    have d2 := nonneg j
    have r2 := map_get (f := iA) hlj
    have hwj := wrapS (k := j) (by omega)
    have w1 : IntKind.i64.wrap (k + 1) = k + 1 := by rw [wrapI (by omega) (by omega)]; first | done | omega
    have st1 := r2
    refine go ?_
    clear st1
    try with_reducible rfl
    refine IHB (j + 1, IntKind.i64.wrap (k + 1), { s' with gens := s'.gens.set j k }) _ _ ⟨⟨by first | exact g1 | (show (s'.gens.set j k).length ≤ _; rw [List.length_set]; exact g1), by first | exact g2 | (show (s'.gens.set j k).length ≤ _; rw [List.length_set]; exact g2), g3, g4⟩, hn, by show j + 1 ≤ (s'.gens.set j k).length; rw [List.length_set]; exact hlj, by show 0 ≤ IntKind.i64.wrap (k + 1); rw [w1]; omega, by show IntKind.i64.wrap (k + 1) ≤ 1048577 + ((j + 1 : Nat) : Int); rw [w1]; omega⟩ (by show (s'.gens.set j k).length - (j + 1) < s'.gens.length - j; rw [List.length_set]; omega) (by rw [hwj]; rfl) (by rw [staA_gens]; first | done | rfl)
  · have d1 := nlt_map (f := iA) (Nat.le_of_not_lt hlj)
    have hj1 : j ≤ 1048576 := by omega
    have hr' : s'.room := ⟨g1, g2, g3, g4⟩
    replace hk1 : k ≤ 1048577 + 1048576 := by omega
    refine go ?_
    clear hlj d1 IHB hj g1 g2 g3 g4
    clear hnl hj0
    revert hk1
    revert hk0
    revert hn
    revert hr'
    revert hj1
    revert s'
    revert k
    revert j
    revert s0
    revert k0
    revert j0
    revert hr
    exact hP1.h
end Go.Proofs.Ytpmlbimlndphhaa.A
namespace Go.Proofs.Ytpmlbimlndphhaa.A
open Go Go.Abs
set_option maxRecDepth 100000
set_option maxHeartbeats 16000000 in
noncomputable def LD {n : Nat}{s : Sta}(hs : s.len) (hi : s.i64) : (P1 : Prop) ×' (Hold P1 → (P2 : Prop) ×' (Hold P2 → (LC (n := n) hs hi).1)) := by
  apply PSigma.mk
  intro hP1
  apply PSigma.mk
  intro hP2
  intro hr j0 k0 s0 j1 k1 s1 hj1 hr' hn hk0 hk1
  have hnl := hr.2.2.1
  refine (evLoop_gen (fun e (x : Nat × Int × Sta) => (e.set 5 (.int .i64 (x.1 : Int))).set 1 (.int .i64 x.2.1)) (fun h x => h.set 5 (some ⟨false, false, true, 13, [staA x.2.2]⟩)) (fun _ => some ⟨.bool true, []⟩) (fun x => x.2.2.room ∧ x.2.2.ths.length = s.ths.length ∧ x.1 ≤ s.ths.length ∧ 0 ≤ x.2.1 ∧ x.2.1 ≤ 2097153 + 16777216 * (x.1 : Int)) (fun x => s.ths.length - x.1) (0, k1, s1) rfl ⟨hr', hn, Nat.zero_le _, hk0, by show k1 ≤ 2097153 + 16777216 * ((0 : Nat) : Int); omega⟩ (by show _ - _ < 18446744073709551616; omega) ?_).trans rfl
  clear hk1 hk0 hn hr'
  rintro ⟨i, k, s'⟩ fC ⟨hr', hn, hj, hk0, hk1⟩ IHC
  replace IHC := fun (y : Nat × Int × Sta) e' h' hy (hm : s.ths.length - y.1 < s.ths.length - i) => IHC y e' h' hy hm
  simp only at hr' hn hj hk0 hk1
  by_cases hli : i < s.ths.length
  · have hi' : i < s'.ths.length := by omega
    have d1 := lt_map (f := thA) hi'
    have d2 := nonneg i
    have r1 := map_get (f := thA) hi'
    have hwi := wrapS (k := i) (by omega)
    have hL : i < (s'.ths.map thA).length := by rw [List.length_map]; exact hi'
    have d3 : ∀ row, decide ((i : Int) < (((s'.ths.map thA).set i row).length : Int)) = true := fun row => by rw [List.length_set]; exact d1
    have w1 : IntKind.i64.wrap (k + 1) = k + 1 := by rw [wrapI (by omega) (by omega)]; first | done | omega
    have w2 : IntKind.i64.wrap (k + 1 + 1) = k + 2 := by rw [wrapI (by omega) (by omega)]; first | done | omega
    have w3 : IntKind.i64.wrap (k + 2 + 1) = k + 3 := by rw [wrapI (by omega) (by omega)]; first | done | omega
    have w4 : IntKind.i64.wrap (k + 3 + 1) = k + 4 := by rw [wrapI (by omega) (by omega)]; first | done | omega
    have w5 : IntKind.i64.wrap (k + 4 + 1) = k + 5 := by rw [wrapI (by omega) (by omega)]; first | done | omega
    have w6 : IntKind.i64.wrap (k + 5 + 1) = k + 6 := by rw [wrapI (by omega) (by omega)]; first | done | omega
    have w7 : IntKind.i64.wrap (k + 6 + 1) = k + 7 := by rw [wrapI (by omega) (by omega)]; first | done | omega
    have w8 : IntKind.i64.wrap (k + 7 + 1) = k + 8 := by rw [wrapI (by omega) (by omega)]; first | done | omega
    have w9 : IntKind.i64.wrap (k + 8 + 1) = k + 9 := by rw [wrapI (by omega) (by omega)]; first | done | omega
    have w10 : IntKind.i64.wrap (k + 9 + 1) = k + 10 := by rw [wrapI (by omega) (by omega)]; first | done | omega
    have w11 : IntKind.i64.wrap (k + 10 + 1) = k + 11 := by rw [wrapI (by omega) (by omega)]; first | done | omega
    have w12 : IntKind.i64.wrap (k + 11 + 1) = k + 12 := by rw [wrapI (by omega) (by omega)]; first | done | omega
    have w13 : IntKind.i64.wrap (k + 12 + 1) = k + 13 := by rw [wrapI (by omega) (by omega)]; first | done | omega
    have w14 : IntKind.i64.wrap (k + 13 + 1) = k + 14 := by rw [wrapI (by omega) (by omega)]; first | done | omega
    have x1 := fun {row : List AV} {x y : R} => br_pos (x := x) (y := y) (d3 row)
    have st1 := r1
    refine go ?_
    clear st1
    clear x1 w1 w2 w3 w4 w5 w6 w7 w8 w9 w10 w11 w12 w13 w14 d3 hL hwi r1 d2 d1 hi' hj hnl hj1
    revert IHC
    revert hk1
    revert hk0
    revert hn
    revert hr'
    revert s'
    revert k
    revert hli
    revert i
    revert fC
    revert s1
    revert k1
    revert j1
    revert s0
    revert k0
    revert j0
    revert hr
    exact hP1.h
  · have d1 := nlt_map (xs := s'.ths) (k := i) (f := thA) (by omega)
    have hi1 : (i : Int) ≤ 1048576 := by omega
    replace hk1 : k ≤ 17592190238721 := by omega
    clear d1 hj IHC hnl hj1
    revert hk1
    revert hk0
    revert hn
    revert hr'
    revert hi1
    revert s'
    revert k
    revert hli
    revert i
    revert fC
    revert s1
    revert k1
    revert j1
    revert s0
    revert k0
    revert j0
    revert hr
    exact hP2.h
end Go.Proofs.Ytpmlbimlndphhaa.A
