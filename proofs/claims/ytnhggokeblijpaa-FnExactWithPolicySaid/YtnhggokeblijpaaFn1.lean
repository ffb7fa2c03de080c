/- What the functions that WithPolicy reaches answer, part 2: no condition. -/
import Derived.Test.YtnhggokeblijpaaFn0
set_option linter.unusedVariables false
set_option linter.unusedSimpArgs false
namespace Go.Proofs.Ytnhggokeblijpaa.A
open Go Go.Abs
set_option maxRecDepth 100000
abbrev pol (s : Scr) (p : Int) : Scr := ⟨s.a, s.b, s.c, s.d, p, s.f, s.ps, s.qs⟩
theorem f18 (n : Nat) (s : Scr) (p : Int) (hs : s.room) : callP cfg (n+3) 18 [.agg (scrA s), .int .i64 p] = some ⟨.agg (scrA (pol s p)), []⟩ := by
  rw [callP_succ]
  obtain ⟨hl1, hl2, hl3⟩ := hs
  have h1 : s.ps.length * 24 ≤ 140737488355328 := by omega
  have h2 : ∀ l ∈ s.ps, l.length * 24 ≤ 140737488355328 := fun l hl => by have := hl2 l hl; omega
  have h3 : s.qs.length * 8 ≤ 140737488355328 := by omega
  repeat' ((conv => lhs; whnf) <;> first | (with_reducible refine (addE_cons _ _ _ _ _ _).trans ?_) | (with_reducible refine (expOps_cons _ _ _ _ _ _ _ _ _ _ _).trans ?_) | (apply bndS_step) | (refine (eqS_self _ _).trans ?_) | (with_reducible refine (addE_nil _ _ _).trans ?_) | (with_reducible refine (expOps_nil _ _ _ _ _ _ _ _ _).trans ?_) | (with_reducible refine (expLvl_cons _ _ _ _ _ _ _ _ _).trans ?_) | (with_reducible refine (expLvl_nil _ _ _ _ _ _).trans ?_) | (with_reducible refine (evDag_cons _ _ _ _ _ _ _ _).trans ?_) | (with_reducible refine (evDag_nil _ _ _ _ _ _).trans ?_) | (with_reducible refine evOps_cons.trans ?_) | (with_reducible refine evOps_nil.trans ?_) | (with_reducible refine ev_seq.trans ?_) | (with_reducible refine ev_region.trans ?_) | (with_reducible refine ev_cond.trans ?_) | (with_reducible refine ev_block.trans ?_) | (with_reducible refine ev_loop.trans ?_) | (with_reducible refine ev_exit.trans ?_) | (with_reducible refine ev_ret.trans ?_) | (with_reducible refine ev_skip.trans ?_) | (with_reducible refine ev_draw.trans ?_) | (with_reducible refine evList_cons.trans ?_) | (with_reducible refine evList_nil.trans ?_) | (with_reducible refine (br_true _ _).trans ?_) | (with_reducible refine (br_false _ _).trans ?_) | (with_reducible refine (br_pos (by assumption)).trans ?_) | (with_reducible refine (br_neg (by assumption)).trans ?_) | (with_reducible refine (bnd_call (f36 _ _ h1 h2)).trans ?_) | (with_reducible refine (bnd_call (f37 _ _ h3)).trans ?_) | (refine (br_pos (by rfl)).trans ?_) | (with_reducible refine (navR_nil _ _ _).trans ?_) | (with_reducible refine (modR_nil _ _ _).trans ?_) | fail)

end Go.Proofs.Ytnhggokeblijpaa.A
namespace Go.Proofs.Ytnhggokeblijpaa.A
open Go Go.Abs
set_option maxRecDepth 100000
theorem f17 (n : Nat) (s : Scr) (p : Int) (hs : s.room) : callP cfg (n+1) 17 [.agg (scrA s), .int .i64 p] = some ⟨.agg (scrA (pol s p)), []⟩ := by
  rw [callP_succ]
  obtain ⟨hl1, hl2, hl3⟩ := hs
  have h2 : ∀ l ∈ s.ps, l.length * 24 ≤ 140737488355328 := fun l hl => by have := hl2 l hl; omega
  have h3 : s.qs.length * 8 ≤ 140737488355328 := by omega
  have l1 : leafRows (s.qs.map iA) = true := leafRows_map fun x => rfl
  have e0 : decide ((([] : List (List AV)).length + (s.qs.map iA).length) * 8 ≤ roomB) = true := decide_eq_true (by simp only [List.length_nil, Nat.zero_add, List.length_map]; exact h3)
  repeat' ((conv => lhs; whnf) <;> first | (with_reducible refine (addE_cons _ _ _ _ _ _).trans ?_) | (with_reducible refine (expOps_cons _ _ _ _ _ _ _ _ _ _ _).trans ?_) | (apply bndS_step) | (refine (eqS_self _ _).trans ?_) | (with_reducible refine (addE_nil _ _ _).trans ?_) | (with_reducible refine (expOps_nil _ _ _ _ _ _ _ _ _).trans ?_) | (with_reducible refine (expLvl_cons _ _ _ _ _ _ _ _ _).trans ?_) | (with_reducible refine (expLvl_nil _ _ _ _ _ _).trans ?_) | (with_reducible refine (evDag_cons _ _ _ _ _ _ _ _).trans ?_) | (with_reducible refine (evDag_nil _ _ _ _ _ _).trans ?_) | (with_reducible refine evOps_cons.trans ?_) | (with_reducible refine evOps_nil.trans ?_) | (with_reducible refine ev_seq.trans ?_) | (with_reducible refine ev_region.trans ?_) | (with_reducible refine ev_cond.trans ?_) | (with_reducible refine ev_block.trans ?_) | (with_reducible refine ev_loop.trans ?_) | (with_reducible refine ev_exit.trans ?_) | (with_reducible refine ev_ret.trans ?_) | (with_reducible refine ev_skip.trans ?_) | (with_reducible refine ev_draw.trans ?_) | (with_reducible refine evList_cons.trans ?_) | (with_reducible refine evList_nil.trans ?_) | (with_reducible refine (br_true _ _).trans ?_) | (with_reducible refine (br_false _ _).trans ?_) | (with_reducible refine (br_pos (by assumption)).trans ?_) | (with_reducible refine (br_neg (by assumption)).trans ?_) | (refine (br_pos (by rfl)).trans ?_) | (refine (br_pos e0).trans ?_) | (with_reducible refine (navR_nil _ _ _).trans ?_) | (with_reducible refine (modR_nil _ _ _).trans ?_) | fail)

  all_goals (conv => lhs; whnf)
  refine (evLoop_run (fun e k => e.set 6 (.int .i64 (k : Int))) (fun h k => h.set 10 (some ⟨false, false, true, 8, [[.int .i64 s.a, .int .i64 s.b, .int .i64 s.c, .int .i64 s.d, .int .i64 p, .int .i64 s.f, .lst 1 ((s.ps.take k).map progA), intsA s.qs]]⟩)) (fun k => some ⟨.agg (scrA (pol s p)), []⟩) s.ps.length (by show _ < 18446744073709551616; omega) rfl ?_).trans rfl
  intro k f hk IH
  by_cases hlt : k < s.ps.length
  · have e1 := lt_map (f := progA) hlt
    have e2 := nonneg k
    have r1 := map_get (f := progA) hlt
    have hw := wrapS (k := k) (by omega)
    have hm := h2 _ (getD_mem hlt)
    have l2 : leafRows ((s.ps.getD k default).map opA) = true := leafRows_map fun x => rfl
    have e4 : decide ((([] : List (List AV)).length + ((s.ps.getD k default).map opA).length) * 24 ≤ roomB) = true := decide_eq_true (by simp only [List.length_nil, Nat.zero_add, List.length_map]; exact hm)
    have e3 : decide ((((s.ps.take k).map progA).length + 1) * 24 ≤ roomB) = true := decide_eq_true (by
      have : ((s.ps.take k).map progA).length = k := by rw [List.length_map, List.length_take]; omega
      rw [this]; show _ ≤ 140737488355328; omega)
    repeat' ((conv => lhs; whnf) <;> first | (with_reducible refine (addE_cons _ _ _ _ _ _).trans ?_) | (with_reducible refine (expOps_cons _ _ _ _ _ _ _ _ _ _ _).trans ?_) | (apply bndS_step) | (refine (eqS_self _ _).trans ?_) | (with_reducible refine (addE_nil _ _ _).trans ?_) | (with_reducible refine (expOps_nil _ _ _ _ _ _ _ _ _).trans ?_) | (with_reducible refine (expLvl_cons _ _ _ _ _ _ _ _ _).trans ?_) | (with_reducible refine (expLvl_nil _ _ _ _ _ _).trans ?_) | (with_reducible refine (evDag_cons _ _ _ _ _ _ _ _).trans ?_) | (with_reducible refine (evDag_nil _ _ _ _ _ _).trans ?_) | (with_reducible refine evOps_cons.trans ?_) | (with_reducible refine evOps_nil.trans ?_) | (with_reducible refine ev_seq.trans ?_) | (with_reducible refine ev_region.trans ?_) | (with_reducible refine ev_cond.trans ?_) | (with_reducible refine ev_block.trans ?_) | (with_reducible refine ev_loop.trans ?_) | (with_reducible refine ev_exit.trans ?_) | (with_reducible refine ev_ret.trans ?_) | (with_reducible refine ev_skip.trans ?_) | (with_reducible refine ev_draw.trans ?_) | (with_reducible refine evList_cons.trans ?_) | (with_reducible refine evList_nil.trans ?_) | (with_reducible refine (br_true _ _).trans ?_) | (with_reducible refine (br_false _ _).trans ?_) | (with_reducible refine (br_pos (by assumption)).trans ?_) | (with_reducible refine (br_neg (by assumption)).trans ?_) | (refine (getRow_eq r1).trans ?_) | (with_reducible refine (navR_atT r1 (by with_unfolding_all rfl)).trans ?_) | (with_reducible refine (modR_atT r1 (by with_unfolding_all rfl)).trans ?_) | (refine (br_pos (by rfl)).trans ?_) | (refine (br_pos e3).trans ?_) | (refine (br_pos e4).trans ?_) | (with_reducible refine (navR_nil _ _ _).trans ?_) | (with_reducible refine (modR_nil _ _ _).trans ?_) | fail)

    all_goals (conv => lhs; whnf)
    refine IH hlt _ _ (by rw [hw]; rfl) (by rw [← take_snoc hlt]; rfl)
  · have e1 := nlt_map (f := progA) (Nat.le_of_not_lt hlt)
    obtain rfl : k = s.ps.length := by omega
    rw [List.take_length]
    repeat' ((conv => lhs; whnf); first | (with_reducible refine evOps_cons.trans ?_) | (with_reducible refine evOps_nil.trans ?_) | (with_reducible refine ev_seq.trans ?_) | (with_reducible refine ev_region.trans ?_) | (with_reducible refine ev_cond.trans ?_) | (with_reducible refine ev_block.trans ?_) | (with_reducible refine ev_loop.trans ?_) | (with_reducible refine ev_exit.trans ?_) | (with_reducible refine ev_ret.trans ?_) | (with_reducible refine ev_skip.trans ?_) | (with_reducible refine ev_draw.trans ?_) | (with_reducible refine evList_cons.trans ?_) | (with_reducible refine evList_nil.trans ?_) | (with_reducible refine (br_true _ _).trans ?_) | (with_reducible refine (br_false _ _).trans ?_) | (with_reducible refine (br_pos (by assumption)).trans ?_) | (with_reducible refine (br_neg (by assumption)).trans ?_) | (with_reducible refine (navR_nil _ _ _).trans ?_) | (with_reducible refine (modR_nil _ _ _).trans ?_) | fail)
    conv => lhs; whnf

end Go.Proofs.Ytnhggokeblijpaa.A
namespace Go.Proofs.Ytnhggokeblijpaa.A
open Go Go.Abs
set_option maxRecDepth 100000
def up (s m : Int) : Nat → Int
  | 0 => m
  | k + 1 => up s m k + s
theorem up_eq (s m : Int) : ∀ k : Nat, up s m k = m + s * k
  | 0 => by simp [up]
  | k + 1 => by
    rw [up, up_eq s m k]
    have : s * ((k + 1 : Nat) : Int) = s * k + s := by rw [Int.natCast_succ, Int.mul_add, Int.mul_one]
    omega
def mk (m : Int) (n : Nat) : List Op3 := (List.range n).map fun j => ⟨up 3 m j, up 3 m j + 1, up 3 m j + 2⟩
def mkI (m : Int) (n : Nat) : List Int := (List.range n).map fun j => up 1 m j
def upP (m : Int) (ps : List (List Op3)) : Nat → Int
  | 0 => m
  | k + 1 => upP m ps k + 3 * (ps.getD k default).length
def mkP (m : Int) (ps : List (List Op3)) : List (List Op3) := (List.range ps.length).map fun k => mk (upP m ps k) (ps.getD k default).length
theorem mk_len (m : Int) (n : Nat) : (mk m n).length = n := by simp [mk]
theorem mkI_len (m : Int) (n : Nat) : (mkI m n).length = n := by simp [mkI]
theorem mkP_len (m : Int) (ps : List (List Op3)) : (mkP m ps).length = ps.length := by simp [mkP]
theorem mk_get {m : Int} {n k : Nat} (h : k < n) : ((mk m n).map opA)[k]? = some (opA ⟨up 3 m k, up 3 m k + 1, up 3 m k + 2⟩) := by simp [mk, h]
theorem mk_getE {m : Int} {n k : Nat} (h : k < n) : (mk m n)[k]? = some ⟨up 3 m k, up 3 m k + 1, up 3 m k + 2⟩ := by simp [mk, h]
theorem mkI_getE {m : Int} {n k : Nat} (h : k < n) : (mkI m n)[k]? = some (up 1 m k) := by simp [mkI, h]
theorem mkP_getE {m : Int} {ps : List (List Op3)} {k : Nat} (h : k < ps.length) : (mkP m ps)[k]? = some (mk (upP m ps k) (ps.getD k default).length) := by simp [mkP, h]
theorem mkI_get {m : Int} {n k : Nat} (h : k < n) : ((mkI m n).map iA)[k]? = some (iA (up 1 m k)) := by simp [mkI, h]
theorem mkP_get {m : Int} {ps : List (List Op3)} {k : Nat} (h : k < ps.length) : ((mkP m ps).map progA)[k]? = some (progA (mk (upP m ps k) (ps.getD k default).length)) := by simp [mkP, h]
theorem upP_le {m : Int} {ps : List (List Op3)} (hs : ∀ l ∈ ps, l.length ≤ 1048576) : ∀ k : Nat, k ≤ ps.length → m ≤ upP m ps k ∧ upP m ps k ≤ m + 3145728 * k
  | 0, _ => by simp [upP]
  | k + 1, h => by
    have h1 := upP_le (m := m) hs k (by omega)
    have h2 := hs _ (getD_mem (xs := ps) (k := k) (by omega))
    unfold upP
    omega
theorem f52 (n : Nat) (c : Nat) (m : Int) (h0 : 0 ≤ m) (h1 : m ≤ 4611686018427387904) (hc : c ≤ 1048576) : callP cfg (n+1) 52 [opsA (mk m c), .int .i64 m] = some ⟨.int .i64 (up 3 m c), []⟩ := by
  rw [callP_succ]
  repeat' ((conv => lhs; whnf); first | (with_reducible refine evOps_cons.trans ?_) | (with_reducible refine evOps_nil.trans ?_) | (with_reducible refine ev_seq.trans ?_) | (with_reducible refine ev_region.trans ?_) | (with_reducible refine ev_cond.trans ?_) | (with_reducible refine ev_block.trans ?_) | (with_reducible refine ev_loop.trans ?_) | (with_reducible refine ev_exit.trans ?_) | (with_reducible refine ev_ret.trans ?_) | (with_reducible refine ev_skip.trans ?_) | (with_reducible refine ev_draw.trans ?_) | (with_reducible refine evList_cons.trans ?_) | (with_reducible refine evList_nil.trans ?_) | (with_reducible refine (br_true _ _).trans ?_) | (with_reducible refine (br_false _ _).trans ?_) | (with_reducible refine (br_pos (by assumption)).trans ?_) | (with_reducible refine (br_neg (by assumption)).trans ?_) | (with_reducible refine (navR_nil _ _ _).trans ?_) | (with_reducible refine (modR_nil _ _ _).trans ?_) | fail)
  
  refine (evLoop_run (fun e k => (e.set 5 (.int .i64 (k : Int))).set 1 (.int .i64 (up 3 m k))) (fun h _ => h) (fun k => some ⟨.int .i64 (up 3 m c), []⟩) c (by show _ < 18446744073709551616; omega) rfl ?_).trans rfl
  intro k f hk IH
  by_cases hlt : k < c
  · have e1 := lt_map (f := opA) (xs := mk m c) (k := k) (by rw [mk_len]; exact hlt)
    have e2 := nonneg k
    have r1 := mk_get (m := m) hlt
    have hw := wrapS (k := k) (by omega)
    have hu := up_eq 3 m k
    have w1 : IntKind.i64.wrap (up 3 m k + 1) = up 3 m k + 1 := wrapI (by omega) (by omega)
    have w2 : IntKind.i64.wrap (IntKind.i64.wrap (up 3 m k + 1) + 1) = up 3 m k + 2 := by rw [w1, wrapI (by omega) (by omega)]; omega
    have w3 : IntKind.i64.wrap (IntKind.i64.wrap (IntKind.i64.wrap (up 3 m k + 1) + 1) + 1) = up 3 m (k + 1) := by rw [w2, wrapI (by omega) (by omega), up]; omega
    have c1 : (up 3 m k != up 3 m k) = false := bne_f rfl
    have c2 : (up 3 m k + 1 != IntKind.i64.wrap (up 3 m k + 1)) = false := bne_f w1.symm
    have c3 : (up 3 m k + 2 != IntKind.i64.wrap (IntKind.i64.wrap (up 3 m k + 1) + 1)) = false := bne_f w2.symm
    repeat' ((conv => lhs; whnf); first | (with_reducible refine evOps_cons.trans ?_) | (with_reducible refine evOps_nil.trans ?_) | (with_reducible refine ev_seq.trans ?_) | (with_reducible refine ev_region.trans ?_) | (with_reducible refine ev_cond.trans ?_) | (with_reducible refine ev_block.trans ?_) | (with_reducible refine ev_loop.trans ?_) | (with_reducible refine ev_exit.trans ?_) | (with_reducible refine ev_ret.trans ?_) | (with_reducible refine ev_skip.trans ?_) | (with_reducible refine ev_draw.trans ?_) | (with_reducible refine evList_cons.trans ?_) | (with_reducible refine evList_nil.trans ?_) | (with_reducible refine (br_true _ _).trans ?_) | (with_reducible refine (br_false _ _).trans ?_) | (with_reducible refine (br_pos (by assumption)).trans ?_) | (with_reducible refine (br_neg (by assumption)).trans ?_) | (refine (getRow_eq r1).trans ?_) | (with_reducible refine (navR_atT r1 (by with_unfolding_all rfl)).trans ?_) | (with_reducible refine (modR_atT r1 (by with_unfolding_all rfl)).trans ?_) | (with_reducible refine (navR_nil _ _ _).trans ?_) | (with_reducible refine (modR_nil _ _ _).trans ?_) | fail)
    conv => lhs; whnf
    exact IH hlt _ _ (by rw [hw, w3]; rfl) rfl
  · have e1 := nlt_map (f := opA) (xs := mk m c) (k := k) (by rw [mk_len]; omega)
    obtain rfl : k = c := by omega
    repeat' ((conv => lhs; whnf); first | (with_reducible refine evOps_cons.trans ?_) | (with_reducible refine evOps_nil.trans ?_) | (with_reducible refine ev_seq.trans ?_) | (with_reducible refine ev_region.trans ?_) | (with_reducible refine ev_cond.trans ?_) | (with_reducible refine ev_block.trans ?_) | (with_reducible refine ev_loop.trans ?_) | (with_reducible refine ev_exit.trans ?_) | (with_reducible refine ev_ret.trans ?_) | (with_reducible refine ev_skip.trans ?_) | (with_reducible refine ev_draw.trans ?_) | (with_reducible refine evList_cons.trans ?_) | (with_reducible refine evList_nil.trans ?_) | (with_reducible refine (br_true _ _).trans ?_) | (with_reducible refine (br_false _ _).trans ?_) | (with_reducible refine (br_pos (by assumption)).trans ?_) | (with_reducible refine (br_neg (by assumption)).trans ?_) | (with_reducible refine (navR_nil _ _ _).trans ?_) | (with_reducible refine (modR_nil _ _ _).trans ?_) | fail)
    conv => lhs; whnf
theorem f41 (n : Nat) (c : Nat) (m : Int) (h0 : 0 ≤ m) (h1 : m ≤ 4611686018427387904) (hc : c ≤ 1048576) : callP cfg (n+1) 41 [intsA (mkI m c), .int .i64 m] = some ⟨.int .i64 (up 1 m c), []⟩ := by
  rw [callP_succ]
  repeat' ((conv => lhs; whnf); first | (with_reducible refine evOps_cons.trans ?_) | (with_reducible refine evOps_nil.trans ?_) | (with_reducible refine ev_seq.trans ?_) | (with_reducible refine ev_region.trans ?_) | (with_reducible refine ev_cond.trans ?_) | (with_reducible refine ev_block.trans ?_) | (with_reducible refine ev_loop.trans ?_) | (with_reducible refine ev_exit.trans ?_) | (with_reducible refine ev_ret.trans ?_) | (with_reducible refine ev_skip.trans ?_) | (with_reducible refine ev_draw.trans ?_) | (with_reducible refine evList_cons.trans ?_) | (with_reducible refine evList_nil.trans ?_) | (with_reducible refine (br_true _ _).trans ?_) | (with_reducible refine (br_false _ _).trans ?_) | (with_reducible refine (br_pos (by assumption)).trans ?_) | (with_reducible refine (br_neg (by assumption)).trans ?_) | (with_reducible refine (navR_nil _ _ _).trans ?_) | (with_reducible refine (modR_nil _ _ _).trans ?_) | fail)
  
  refine (evLoop_run (fun e k => (e.set 5 (.int .i64 (k : Int))).set 1 (.int .i64 (up 1 m k))) (fun h _ => h) (fun k => some ⟨.int .i64 (up 1 m c), []⟩) c (by show _ < 18446744073709551616; omega) rfl ?_).trans rfl
  intro k f hk IH
  by_cases hlt : k < c
  · have e1 := lt_map (f := iA) (xs := mkI m c) (k := k) (by rw [mkI_len]; exact hlt)
    have e2 := nonneg k
    have r1 := mkI_get (m := m) hlt
    have hw := wrapS (k := k) (by omega)
    have hu := up_eq 1 m k
    have w1 : IntKind.i64.wrap (up 1 m k + 1) = up 1 m (k + 1) := wrapI (by omega) (by omega)
    have c1 : (up 1 m k != up 1 m k) = false := bne_f rfl
    repeat' ((conv => lhs; whnf); first | (with_reducible refine evOps_cons.trans ?_) | (with_reducible refine evOps_nil.trans ?_) | (with_reducible refine ev_seq.trans ?_) | (with_reducible refine ev_region.trans ?_) | (with_reducible refine ev_cond.trans ?_) | (with_reducible refine ev_block.trans ?_) | (with_reducible refine ev_loop.trans ?_) | (with_reducible refine ev_exit.trans ?_) | (with_reducible refine ev_ret.trans ?_) | (with_reducible refine ev_skip.trans ?_) | (with_reducible refine ev_draw.trans ?_) | (with_reducible refine evList_cons.trans ?_) | (with_reducible refine evList_nil.trans ?_) | (with_reducible refine (br_true _ _).trans ?_) | (with_reducible refine (br_false _ _).trans ?_) | (with_reducible refine (br_pos (by assumption)).trans ?_) | (with_reducible refine (br_neg (by assumption)).trans ?_) | (refine (getRow_eq r1).trans ?_) | (with_reducible refine (navR_atT r1 (by with_unfolding_all rfl)).trans ?_) | (with_reducible refine (modR_atT r1 (by with_unfolding_all rfl)).trans ?_) | (with_reducible refine (navR_nil _ _ _).trans ?_) | (with_reducible refine (modR_nil _ _ _).trans ?_) | fail)
    conv => lhs; whnf
    exact IH hlt _ _ (by rw [hw, w1]; rfl) rfl
  · have e1 := nlt_map (f := iA) (xs := mkI m c) (k := k) (by rw [mkI_len]; omega)
    obtain rfl : k = c := by omega
    repeat' ((conv => lhs; whnf); first | (with_reducible refine evOps_cons.trans ?_) | (with_reducible refine evOps_nil.trans ?_) | (with_reducible refine ev_seq.trans ?_) | (with_reducible refine ev_region.trans ?_) | (with_reducible refine ev_cond.trans ?_) | (with_reducible refine ev_block.trans ?_) | (with_reducible refine ev_loop.trans ?_) | (with_reducible refine ev_exit.trans ?_) | (with_reducible refine ev_ret.trans ?_) | (with_reducible refine ev_skip.trans ?_) | (with_reducible refine ev_draw.trans ?_) | (with_reducible refine evList_cons.trans ?_) | (with_reducible refine evList_nil.trans ?_) | (with_reducible refine (br_true _ _).trans ?_) | (with_reducible refine (br_false _ _).trans ?_) | (with_reducible refine (br_pos (by assumption)).trans ?_) | (with_reducible refine (br_neg (by assumption)).trans ?_) | (with_reducible refine (navR_nil _ _ _).trans ?_) | (with_reducible refine (modR_nil _ _ _).trans ?_) | fail)
    conv => lhs; whnf
theorem f40 (n : Nat) (ps : List (List Op3)) (m : Int) (h0 : 0 ≤ m) (h1 : m ≤ 4611686018427387904 - 3298534883328) (hc : ps.length ≤ 1048576) (hs : ∀ l ∈ ps, l.length ≤ 1048576) : callP cfg (n+2) 40 [progsA (mkP m ps), .int .i64 m] = some ⟨.int .i64 (upP m ps ps.length), []⟩ := by
  rw [callP_succ]
  repeat' ((conv => lhs; whnf); first | (with_reducible refine evOps_cons.trans ?_) | (with_reducible refine evOps_nil.trans ?_) | (with_reducible refine ev_seq.trans ?_) | (with_reducible refine ev_region.trans ?_) | (with_reducible refine ev_cond.trans ?_) | (with_reducible refine ev_block.trans ?_) | (with_reducible refine ev_loop.trans ?_) | (with_reducible refine ev_exit.trans ?_) | (with_reducible refine ev_ret.trans ?_) | (with_reducible refine ev_skip.trans ?_) | (with_reducible refine ev_draw.trans ?_) | (with_reducible refine evList_cons.trans ?_) | (with_reducible refine evList_nil.trans ?_) | (with_reducible refine (br_true _ _).trans ?_) | (with_reducible refine (br_false _ _).trans ?_) | (with_reducible refine (br_pos (by assumption)).trans ?_) | (with_reducible refine (br_neg (by assumption)).trans ?_) | (with_reducible refine (navR_nil _ _ _).trans ?_) | (with_reducible refine (modR_nil _ _ _).trans ?_) | fail)
  
  refine (evLoop_run (fun e k => (e.set 5 (.int .i64 (k : Int))).set 1 (.int .i64 (upP m ps k))) (fun h _ => h) (fun k => some ⟨.int .i64 (upP m ps ps.length), []⟩) ps.length (by show _ < 18446744073709551616; omega) rfl ?_).trans rfl
  intro k f hk IH
  by_cases hlt : k < ps.length
  · have e1 := lt_map (f := progA) (xs := mkP m ps) (k := k) (by rw [mkP_len]; exact hlt)
    have e2 := nonneg k
    have r1 := mkP_get (m := m) hlt
    have hw := wrapS (k := k) (by omega)
    have hu := upP_le (m := m) hs k hk
    have hu1 := upP_le (m := m) hs (k + 1) hlt
    have hm := hs _ (getD_mem hlt)
    have w1 : up 3 (upP m ps k) (ps.getD k default).length = upP m ps (k + 1) := by rw [up_eq, upP]
    have c1 : decide (up 3 (upP m ps k) (ps.getD k default).length < 0) = false := by rw [w1]; exact decide_eq_false (by omega)
    repeat' ((conv => lhs; whnf); first | (with_reducible refine evOps_cons.trans ?_) | (with_reducible refine evOps_nil.trans ?_) | (with_reducible refine ev_seq.trans ?_) | (with_reducible refine ev_region.trans ?_) | (with_reducible refine ev_cond.trans ?_) | (with_reducible refine ev_block.trans ?_) | (with_reducible refine ev_loop.trans ?_) | (with_reducible refine ev_exit.trans ?_) | (with_reducible refine ev_ret.trans ?_) | (with_reducible refine ev_skip.trans ?_) | (with_reducible refine ev_draw.trans ?_) | (with_reducible refine evList_cons.trans ?_) | (with_reducible refine evList_nil.trans ?_) | (with_reducible refine (br_true _ _).trans ?_) | (with_reducible refine (br_false _ _).trans ?_) | (with_reducible refine (br_pos (by assumption)).trans ?_) | (with_reducible refine (br_neg (by assumption)).trans ?_) | (refine (getRow_eq r1).trans ?_) | (with_reducible refine (navR_atT r1 (by with_unfolding_all rfl)).trans ?_) | (with_reducible refine (modR_atT r1 (by with_unfolding_all rfl)).trans ?_) | (with_reducible refine (bnd_call (f52 _ _ _ (by omega) (by omega) hm)).trans ?_) | (with_reducible refine (navR_nil _ _ _).trans ?_) | (with_reducible refine (modR_nil _ _ _).trans ?_) | fail)
    conv => lhs; whnf
    exact IH hlt _ _ (by rw [hw, w1]; rfl) rfl
  · have e1 := nlt_map (f := progA) (xs := mkP m ps) (k := k) (by rw [mkP_len]; omega)
    obtain rfl : k = ps.length := by omega
    repeat' ((conv => lhs; whnf); first | (with_reducible refine evOps_cons.trans ?_) | (with_reducible refine evOps_nil.trans ?_) | (with_reducible refine ev_seq.trans ?_) | (with_reducible refine ev_region.trans ?_) | (with_reducible refine ev_cond.trans ?_) | (with_reducible refine ev_block.trans ?_) | (with_reducible refine ev_loop.trans ?_) | (with_reducible refine ev_exit.trans ?_) | (with_reducible refine ev_ret.trans ?_) | (with_reducible refine ev_skip.trans ?_) | (with_reducible refine ev_draw.trans ?_) | (with_reducible refine evList_cons.trans ?_) | (with_reducible refine evList_nil.trans ?_) | (with_reducible refine (br_true _ _).trans ?_) | (with_reducible refine (br_false _ _).trans ?_) | (with_reducible refine (br_pos (by assumption)).trans ?_) | (with_reducible refine (br_neg (by assumption)).trans ?_) | (with_reducible refine (navR_nil _ _ _).trans ?_) | (with_reducible refine (modR_nil _ _ _).trans ?_) | fail)
    conv => lhs; whnf
abbrev mkS (s : Scr) (m : Int) : Scr := ⟨s.a, s.b, s.c, s.d, s.e, s.f, mkP m s.ps, mkI (upP m s.ps s.ps.length) s.qs.length⟩
abbrev upS (s : Scr) (m : Int) : Int := up 1 (upP m s.ps s.ps.length) s.qs.length
theorem f20 (n : Nat) (s : Scr) (hs : s.room) : callP cfg (n+3) 20 [.agg (scrA (mkS s 1)), .int .i64 1] = some ⟨.int .i64 (upS s 1), []⟩ := by
  rw [callP_succ]
  obtain ⟨hl1, hl2, hl3⟩ := hs
  have hu := upP_le (m := 1) hl2 s.ps.length (Nat.le_refl _)
  have hv := up_eq 1 (upP 1 s.ps s.ps.length) s.qs.length
  have c1 : decide (upP 1 s.ps s.ps.length < 0) = false := decide_eq_false (by omega)
  have c2 : decide (up 1 (upP 1 s.ps s.ps.length) s.qs.length < 0) = false := decide_eq_false (by omega)
  repeat' ((conv => lhs; whnf); first | (with_reducible refine evOps_cons.trans ?_) | (with_reducible refine evOps_nil.trans ?_) | (with_reducible refine ev_seq.trans ?_) | (with_reducible refine ev_region.trans ?_) | (with_reducible refine ev_cond.trans ?_) | (with_reducible refine ev_block.trans ?_) | (with_reducible refine ev_loop.trans ?_) | (with_reducible refine ev_exit.trans ?_) | (with_reducible refine ev_ret.trans ?_) | (with_reducible refine ev_skip.trans ?_) | (with_reducible refine ev_draw.trans ?_) | (with_reducible refine evList_cons.trans ?_) | (with_reducible refine evList_nil.trans ?_) | (with_reducible refine (br_true _ _).trans ?_) | (with_reducible refine (br_false _ _).trans ?_) | (with_reducible refine (br_pos (by assumption)).trans ?_) | (with_reducible refine (br_neg (by assumption)).trans ?_) | (with_reducible refine (bnd_call (f40 _ _ _ (by decide) (by decide) hl1 hl2)).trans ?_) | (with_reducible refine (bnd_call (f41 _ _ _ (by omega) (by omega) hl3)).trans ?_) | (with_reducible refine (navR_nil _ _ _).trans ?_) | (with_reducible refine (modR_nil _ _ _).trans ?_) | fail)
  conv => lhs; whnf
end Go.Proofs.Ytnhggokeblijpaa.A
namespace Go.Proofs.Ytnhggokeblijpaa.A
open Go Go.Abs
set_option maxRecDepth 100000
set_option maxHeartbeats 1000000 in
theorem f6 (n : Nat) (s : Scr) (p : Int) (hs : s.len) : callP cfg (n+5) 6 [.agg (scrA s), .int .i64 p] = some ⟨.bool true, []⟩ := by
  rw [callP_succ]
  by_cases hb : szScr s 1048576 < 0
  · have e0 : decide (szScr s 1048576 < 0) = true := by simpa using hb
    repeat' ((conv => lhs; whnf); first | (with_reducible refine evOps_cons.trans ?_) | (with_reducible refine evOps_nil.trans ?_) | (with_reducible refine ev_seq.trans ?_) | (with_reducible refine ev_region.trans ?_) | (with_reducible refine ev_cond.trans ?_) | (with_reducible refine ev_block.trans ?_) | (with_reducible refine ev_loop.trans ?_) | (with_reducible refine ev_exit.trans ?_) | (with_reducible refine ev_ret.trans ?_) | (with_reducible refine ev_skip.trans ?_) | (with_reducible refine ev_draw.trans ?_) | (with_reducible refine evList_cons.trans ?_) | (with_reducible refine evList_nil.trans ?_) | (with_reducible refine (br_true _ _).trans ?_) | (with_reducible refine (br_false _ _).trans ?_) | (with_reducible refine (br_pos (by assumption)).trans ?_) | (with_reducible refine (br_neg (by assumption)).trans ?_) | (with_reducible refine (bnd_call (f12 _ s hs _ (by decide) (by decide))).trans ?_) | (with_reducible refine (navR_nil _ _ _).trans ?_) | (with_reducible refine (modR_nil _ _ _).trans ?_) | fail)
    conv => lhs; whnf
  · have e0 : decide (szScr s 1048576 < 0) = false := by simpa using hb
    have hr := szScr_room s (by omega)
    have hp : (pol s p).len := hs
    have hpr : (pol s p).room := hr
    have hl1 := hr.1
    have hl2 := hr.2.1
    have hl3 := hr.2.2
    have e2 : (!decide (s = s)) = false := by simp
    have e3 : (!decide (pol s p = pol s p)) = false := by simp
    repeat' ((conv => lhs; whnf) <;> first | (with_reducible refine (addE_cons _ _ _ _ _ _).trans ?_) | (with_reducible refine (expOps_cons _ _ _ _ _ _ _ _ _ _ _).trans ?_) | (apply bndS_step) | (refine (eqS_self _ _).trans ?_) | (with_reducible refine (addE_nil _ _ _).trans ?_) | (with_reducible refine (expOps_nil _ _ _ _ _ _ _ _ _).trans ?_) | (with_reducible refine (expLvl_cons _ _ _ _ _ _ _ _ _).trans ?_) | (with_reducible refine (expLvl_nil _ _ _ _ _ _).trans ?_) | (with_reducible refine (evDag_cons _ _ _ _ _ _ _ _).trans ?_) | (with_reducible refine (evDag_nil _ _ _ _ _ _).trans ?_) | (with_reducible refine evOps_cons.trans ?_) | (with_reducible refine evOps_nil.trans ?_) | (with_reducible refine ev_seq.trans ?_) | (with_reducible refine ev_region.trans ?_) | (with_reducible refine ev_cond.trans ?_) | (with_reducible refine ev_block.trans ?_) | (with_reducible refine ev_loop.trans ?_) | (with_reducible refine ev_exit.trans ?_) | (with_reducible refine ev_ret.trans ?_) | (with_reducible refine ev_skip.trans ?_) | (with_reducible refine ev_draw.trans ?_) | (with_reducible refine evList_cons.trans ?_) | (with_reducible refine evList_nil.trans ?_) | (with_reducible refine (br_true _ _).trans ?_) | (with_reducible refine (br_false _ _).trans ?_) | (with_reducible refine (br_pos (by assumption)).trans ?_) | (with_reducible refine (br_neg (by assumption)).trans ?_) | (with_reducible refine (bnd_call (f12 _ s hs _ (by decide) (by decide))).trans ?_) | (with_reducible refine (bnd_call (f14 _ s hr)).trans ?_) | (with_reducible refine (bnd_call (f17 _ s p hr)).trans ?_) | (with_reducible refine (bnd_call (f18 _ s p hr)).trans ?_) | (with_reducible refine (bnd_call (f16 _ _ _ hs)).trans ?_) | (with_reducible refine (bnd_call (f16 _ _ _ hp)).trans ?_) | (with_reducible refine (bnd_call (f20 _ (pol s p) hpr)).trans ?_) | (with_reducible refine (navR_nil _ _ _).trans ?_) | (with_reducible refine (modR_nil _ _ _).trans ?_) | fail)

    all_goals (conv => lhs; whnf)
    have hset1 : (mix (mkP 1 s.ps) s.ps 0).map progA = s.ps.map progA := by rw [mix_zero]
    refine (evLoop_run (fun e k => (e.set 5 (.int .i64 (k : Int))).set 1 (.int .i64 (upP 1 s.ps k))) (fun h k => h.set 6 (some ⟨false, false, true, 8, [[.int .i64 s.a, .int .i64 s.b, .int .i64 s.c, .int .i64 s.d, .int .i64 s.e, .int .i64 s.f, .lst 1 ((mix (mkP 1 s.ps) s.ps k).map progA), intsA s.qs]]⟩)) (fun k => some ⟨.bool true, []⟩) s.ps.length (by show _ < 18446744073709551616; omega) ((congrArg (fun L => St.mk _ _ (List.set _ 6 (some (Root.mk false false true 8 [[.int .i64 s.a, .int .i64 s.b, .int .i64 s.c, .int .i64 s.d, .int .i64 s.e, .int .i64 s.f, .lst 1 L, intsA s.qs]])))) hset1).trans rfl) ?_).trans rfl
    intro k f hk IH
    by_cases hlt : k < s.ps.length
    · have e1 := lt_map (f := progA) (xs := (mix (mkP 1 s.ps) s.ps k)) (k := k) (by rw [mix_len (mkP_len _ _) hk]; exact hlt)
      have e2 := nonneg k
      have r1 := mix_get (f := progA) (mkP_len 1 s.ps) hlt
      have hw := wrapS (k := k) (by omega)
      have hm := hl2 _ (getD_mem hlt)
      have hu := upP_le (m := 1) hl2 k hk
      have w1 : up 3 (upP 1 s.ps k) (s.ps.getD k default).length = upP 1 s.ps (k + 1) := by rw [up_eq, upP]
      repeat' ((conv => lhs; whnf); first | (with_reducible refine evOps_cons.trans ?_) | (with_reducible refine evOps_nil.trans ?_) | (with_reducible refine ev_seq.trans ?_) | (with_reducible refine ev_region.trans ?_) | (with_reducible refine ev_cond.trans ?_) | (with_reducible refine ev_block.trans ?_) | (with_reducible refine ev_loop.trans ?_) | (with_reducible refine ev_exit.trans ?_) | (with_reducible refine ev_ret.trans ?_) | (with_reducible refine ev_skip.trans ?_) | (with_reducible refine ev_draw.trans ?_) | (with_reducible refine evList_cons.trans ?_) | (with_reducible refine evList_nil.trans ?_) | (with_reducible refine (br_true _ _).trans ?_) | (with_reducible refine (br_false _ _).trans ?_) | (with_reducible refine (br_pos (by assumption)).trans ?_) | (with_reducible refine (br_neg (by assumption)).trans ?_) | (refine (getRow_eq r1).trans ?_) | (with_reducible refine (navR_atT r1 (by with_unfolding_all rfl)).trans ?_) | (with_reducible refine (modR_atT r1 (by with_unfolding_all rfl)).trans ?_) | (with_reducible refine (navR_nil _ _ _).trans ?_) | (with_reducible refine (modR_nil _ _ _).trans ?_) | fail)
  
      have hset0 : ((mix (mkP 1 s.ps) s.ps k).map progA).set k (progA (mix (mk (upP 1 s.ps k) (s.ps.getD k default).length) (s.ps.getD k default) 0)) = (mix (mkP 1 s.ps) s.ps k).map progA := by rw [mix_zero]; exact set_self r1
      have hL : k < ((mix (mkP 1 s.ps) s.ps k).map progA).length := by rw [List.length_map, mix_len (mkP_len _ _) hk]; exact hlt
      refine (evLoop_run (fun e j => (e.set 5 (.int .i64 (j : Int))).set 1 (.int .i64 (up 3 (upP 1 s.ps k) j))) (fun h j => h.set 6 (some ⟨false, false, true, 8, [[.int .i64 s.a, .int .i64 s.b, .int .i64 s.c, .int .i64 s.d, .int .i64 s.e, .int .i64 s.f, .lst 1 (((mix (mkP 1 s.ps) s.ps k).map progA).set k (progA (mix (mk (upP 1 s.ps k) (s.ps.getD k default).length) (s.ps.getD k default) j))), intsA s.qs]]⟩)) (fun j => some ⟨.bool true, []⟩) (s.ps.getD k default).length (by show _ < 18446744073709551616; omega) ((congrArg (fun L => St.mk _ _ (List.set _ 6 (some (Root.mk false false true 8 [[.int .i64 s.a, .int .i64 s.b, .int .i64 s.c, .int .i64 s.d, .int .i64 s.e, .int .i64 s.f, .lst 1 L, intsA s.qs]])))) hset0).trans rfl) ?_).trans rfl
      intro j f' hj IH2
      by_cases hlj : j < (s.ps.getD k default).length
      · have d1 := lt_map (f := opA) (xs := (mix (mk (upP 1 s.ps k) (s.ps.getD k default).length) (s.ps.getD k default) j)) (k := j) (by rw [mix_len (mk_len _ _) hj]; exact hlj)
        have d2 := nonneg j
        have r3 := mix_get (f := opA) (mk_len (upP 1 s.ps k) (s.ps.getD k default).length) hlj
        have hLi : j < ((mix (mk (upP 1 s.ps k) (s.ps.getD k default).length) (s.ps.getD k default) j).map opA).length := by rw [List.length_map, mix_len (mk_len _ _) hj]; exact hlj
        have hwj := wrapS (k := j) (by omega)
        have hup := up_eq 3 (upP 1 s.ps k) j
        have v1 : IntKind.i64.wrap (up 3 (upP 1 s.ps k) j + 1) = up 3 (upP 1 s.ps k) j + 1 := wrapI (by omega) (by omega)
        have v2 : IntKind.i64.wrap (IntKind.i64.wrap (up 3 (upP 1 s.ps k) j + 1) + 1) = up 3 (upP 1 s.ps k) j + 2 := by rw [v1, wrapI (by omega) (by omega)]; omega
        have v3 : IntKind.i64.wrap (IntKind.i64.wrap (IntKind.i64.wrap (up 3 (upP 1 s.ps k) j + 1) + 1) + 1) = up 3 (upP 1 s.ps k) (j + 1) := by rw [v2, wrapI (by omega) (by omega), up]; omega
        have hy : (mk (upP 1 s.ps k) (s.ps.getD k default).length)[j]? = some ⟨up 3 (upP 1 s.ps k) j, up 3 (upP 1 s.ps k) j + 1, up 3 (upP 1 s.ps k) j + 2⟩ := mk_getE hlj
        have hrow : progA (mix (mk (upP 1 s.ps k) (s.ps.getD k default).length) (s.ps.getD k default) (j + 1)) = [.lst 3 (((mix (mk (upP 1 s.ps k) (s.ps.getD k default).length) (s.ps.getD k default) j).map opA).set j [.int .i64 (up 3 (upP 1 s.ps k) j), .int .i64 (IntKind.i64.wrap (up 3 (upP 1 s.ps k) j + 1)), .int .i64 (IntKind.i64.wrap (IntKind.i64.wrap (up 3 (upP 1 s.ps k) j + 1) + 1))])] := by
          rw [v2, v1]
          exact congrArg (fun L => [AV.lst 3 L]) (mix_set (f := opA) (mk_len _ _) hlj hy).symm
        repeat' ((conv => lhs; whnf); first | (with_reducible refine evOps_cons.trans ?_) | (with_reducible refine evOps_nil.trans ?_) | (with_reducible refine ev_seq.trans ?_) | (with_reducible refine ev_region.trans ?_) | (with_reducible refine ev_cond.trans ?_) | (with_reducible refine ev_block.trans ?_) | (with_reducible refine ev_loop.trans ?_) | (with_reducible refine ev_exit.trans ?_) | (with_reducible refine ev_ret.trans ?_) | (with_reducible refine ev_skip.trans ?_) | (with_reducible refine ev_draw.trans ?_) | (with_reducible refine evList_cons.trans ?_) | (with_reducible refine evList_nil.trans ?_) | (with_reducible refine (br_true _ _).trans ?_) | (with_reducible refine (br_false _ _).trans ?_) | (with_reducible refine (br_pos (by assumption)).trans ?_) | (with_reducible refine (br_neg (by assumption)).trans ?_) | (with_reducible refine (navR_atT r1 (by with_unfolding_all rfl)).trans ?_) | (with_reducible refine (modR_atT r1 (by with_unfolding_all rfl)).trans ?_) | (with_reducible refine (navR_atT (set_get hL) (by with_unfolding_all rfl)).trans ?_) | (with_reducible refine (modR_atT (set_get hL) (by with_unfolding_all rfl)).trans ?_) | (with_reducible refine (br_pos (lt_set hL)).trans ?_) | (with_reducible refine (getRow_setT hL).trans ?_) | (with_reducible refine (setRC_setT hL (Nat.le_of_ble_eq_true rfl)).trans ?_) | (with_reducible refine (getRow_eqT r1).trans ?_) | (with_reducible refine (setRC_atT r1 (Nat.le_of_ble_eq_true rfl)).trans ?_) | (with_reducible refine (br_pos (lt_set hLi)).trans ?_) | (with_reducible refine (getRow_setT hLi).trans ?_) | (with_reducible refine (setRC_setT hLi (Nat.le_of_ble_eq_true rfl)).trans ?_) | (with_reducible refine (getRow_eqT r3).trans ?_) | (with_reducible refine (setRC_atT r3 (Nat.le_of_ble_eq_true rfl)).trans ?_) | (with_reducible refine (navR_nil _ _ _).trans ?_) | (with_reducible refine (modR_nil _ _ _).trans ?_) | fail)
        conv => lhs; whnf
        exact IH2 hlj _ _ (by rw [hwj, v3]; rfl) (by rw [hrow]; rfl)
      · have d1 := nlt_map (f := opA) (xs := (mix (mk (upP 1 s.ps k) (s.ps.getD k default).length) (s.ps.getD k default) j)) (k := j) (by rw [mix_len (mk_len _ _) hj]; omega)
        have hje : j = (s.ps.getD k default).length := by omega
        have w2 : up 3 (upP 1 s.ps k) j = upP 1 s.ps (k + 1) := by rw [hje, w1]
        have hy : (mkP 1 s.ps)[k]? = some (mk (upP 1 s.ps k) (s.ps.getD k default).length) := mkP_getE hlt
        have hrow : (mix (mkP 1 s.ps) s.ps (k + 1)).map progA = ((mix (mkP 1 s.ps) s.ps k).map progA).set k (progA (mix (mk (upP 1 s.ps k) (s.ps.getD k default).length) (s.ps.getD k default) j)) := by
          rw [mix_end (mk_len _ _) hje]
          exact (mix_set (f := progA) (mkP_len _ _) hlt hy).symm
        repeat' ((conv => lhs; whnf); first | (with_reducible refine evOps_cons.trans ?_) | (with_reducible refine evOps_nil.trans ?_) | (with_reducible refine ev_seq.trans ?_) | (with_reducible refine ev_region.trans ?_) | (with_reducible refine ev_cond.trans ?_) | (with_reducible refine ev_block.trans ?_) | (with_reducible refine ev_loop.trans ?_) | (with_reducible refine ev_exit.trans ?_) | (with_reducible refine ev_ret.trans ?_) | (with_reducible refine ev_skip.trans ?_) | (with_reducible refine ev_draw.trans ?_) | (with_reducible refine evList_cons.trans ?_) | (with_reducible refine evList_nil.trans ?_) | (with_reducible refine (br_true _ _).trans ?_) | (with_reducible refine (br_false _ _).trans ?_) | (with_reducible refine (br_pos (by assumption)).trans ?_) | (with_reducible refine (br_neg (by assumption)).trans ?_) | (with_reducible refine (navR_atT r1 (by with_unfolding_all rfl)).trans ?_) | (with_reducible refine (modR_atT r1 (by with_unfolding_all rfl)).trans ?_) | (with_reducible refine (navR_atT (set_get hL) (by with_unfolding_all rfl)).trans ?_) | (with_reducible refine (modR_atT (set_get hL) (by with_unfolding_all rfl)).trans ?_) | (with_reducible refine (br_pos (lt_set hL)).trans ?_) | (with_reducible refine (getRow_setT hL).trans ?_) | (with_reducible refine (setRC_setT hL (Nat.le_of_ble_eq_true rfl)).trans ?_) | (with_reducible refine (getRow_eqT r1).trans ?_) | (with_reducible refine (setRC_atT r1 (Nat.le_of_ble_eq_true rfl)).trans ?_) | (with_reducible refine (navR_nil _ _ _).trans ?_) | (with_reducible refine (modR_nil _ _ _).trans ?_) | fail)
        conv => lhs; whnf
        exact IH hlt _ _ (by rw [hw, ← w2]; rfl) (by rw [hrow]; rfl)
    · have e1 := nlt_map (f := progA) (xs := (mix (mkP 1 s.ps) s.ps k)) (k := k) (by rw [mix_len (mkP_len _ _) hk]; omega)
      obtain rfl : k = s.ps.length := by omega
      repeat' ((conv => lhs; whnf); first | (with_reducible refine evOps_cons.trans ?_) | (with_reducible refine evOps_nil.trans ?_) | (with_reducible refine ev_seq.trans ?_) | (with_reducible refine ev_region.trans ?_) | (with_reducible refine ev_cond.trans ?_) | (with_reducible refine ev_block.trans ?_) | (with_reducible refine ev_loop.trans ?_) | (with_reducible refine ev_exit.trans ?_) | (with_reducible refine ev_ret.trans ?_) | (with_reducible refine ev_skip.trans ?_) | (with_reducible refine ev_draw.trans ?_) | (with_reducible refine evList_cons.trans ?_) | (with_reducible refine evList_nil.trans ?_) | (with_reducible refine (br_true _ _).trans ?_) | (with_reducible refine (br_false _ _).trans ?_) | (with_reducible refine (br_pos (by assumption)).trans ?_) | (with_reducible refine (br_neg (by assumption)).trans ?_) | (with_reducible refine (navR_nil _ _ _).trans ?_) | (with_reducible refine (modR_nil _ _ _).trans ?_) | fail)
  
      have hu := upP_le (m := 1) hl2 s.ps.length (Nat.le_refl _)
      have hset2 : (mix (mkI (upP 1 s.ps s.ps.length) s.qs.length) s.qs 0).map iA = s.qs.map iA := by rw [mix_zero]
      have hend : (mix (mkP 1 s.ps) s.ps s.ps.length).map progA = (mkP 1 s.ps).map progA := by rw [mix_end (mkP_len _ _) rfl]
      refine (evLoop_run (fun e k => (e.set 5 (.int .i64 (k : Int))).set 1 (.int .i64 (up 1 (upP 1 s.ps s.ps.length) k))) (fun h k => h.set 6 (some ⟨false, false, true, 8, [[.int .i64 s.a, .int .i64 s.b, .int .i64 s.c, .int .i64 s.d, .int .i64 s.e, .int .i64 s.f, progsA (mkP 1 s.ps), .lst 1 ((mix (mkI (upP 1 s.ps s.ps.length) s.qs.length) s.qs k).map iA)]]⟩)) (fun k => some ⟨.bool true, []⟩) s.qs.length (by show _ < 18446744073709551616; omega) ((congrArg (fun L => St.mk _ _ (List.set _ 6 (some (Root.mk false false true 8 [[.int .i64 s.a, .int .i64 s.b, .int .i64 s.c, .int .i64 s.d, .int .i64 s.e, .int .i64 s.f, .lst 1 L, .lst 1 ((mix (mkI (upP 1 s.ps s.ps.length) s.qs.length) s.qs 0).map iA)]])))) hend.symm).trans ((congrArg (fun L => St.mk _ _ (List.set _ 6 (some (Root.mk false false true 8 [[.int .i64 s.a, .int .i64 s.b, .int .i64 s.c, .int .i64 s.d, .int .i64 s.e, .int .i64 s.f, .lst 1 ((mix (mkP 1 s.ps) s.ps s.ps.length).map progA), .lst 1 L]])))) hset2).trans rfl)) ?_).trans rfl
      clear IH hk
      intro k f hk IH
      by_cases hlt : k < s.qs.length
      · have e1 := lt_map (f := iA) (xs := (mix (mkI (upP 1 s.ps s.ps.length) s.qs.length) s.qs k)) (k := k) (by rw [mix_len (mkI_len _ _) hk]; exact hlt)
        have e2 := nonneg k
        have r1 := mix_get (f := iA) (mkI_len (upP 1 s.ps s.ps.length) s.qs.length) hlt
        have hw := wrapS (k := k) (by omega)
        have hup := up_eq 1 (upP 1 s.ps s.ps.length) k
        have v1 : IntKind.i64.wrap (up 1 (upP 1 s.ps s.ps.length) k + 1) = up 1 (upP 1 s.ps s.ps.length) (k + 1) := wrapI (by omega) (by omega)
        have hy : (mkI (upP 1 s.ps s.ps.length) s.qs.length)[k]? = some (up 1 (upP 1 s.ps s.ps.length) k) := mkI_getE hlt
        have hrow : (mix (mkI (upP 1 s.ps s.ps.length) s.qs.length) s.qs (k + 1)).map iA = ((mix (mkI (upP 1 s.ps s.ps.length) s.qs.length) s.qs k).map iA).set k [.int .i64 (up 1 (upP 1 s.ps s.ps.length) k)] := (mix_set (f := iA) (mkI_len _ _) hlt hy).symm
        repeat' ((conv => lhs; whnf); first | (with_reducible refine evOps_cons.trans ?_) | (with_reducible refine evOps_nil.trans ?_) | (with_reducible refine ev_seq.trans ?_) | (with_reducible refine ev_region.trans ?_) | (with_reducible refine ev_cond.trans ?_) | (with_reducible refine ev_block.trans ?_) | (with_reducible refine ev_loop.trans ?_) | (with_reducible refine ev_exit.trans ?_) | (with_reducible refine ev_ret.trans ?_) | (with_reducible refine ev_skip.trans ?_) | (with_reducible refine ev_draw.trans ?_) | (with_reducible refine evList_cons.trans ?_) | (with_reducible refine evList_nil.trans ?_) | (with_reducible refine (br_true _ _).trans ?_) | (with_reducible refine (br_false _ _).trans ?_) | (with_reducible refine (br_pos (by assumption)).trans ?_) | (with_reducible refine (br_neg (by assumption)).trans ?_) | (with_reducible refine (navR_atT r1 (by with_unfolding_all rfl)).trans ?_) | (with_reducible refine (modR_atT r1 (by with_unfolding_all rfl)).trans ?_) | (with_reducible refine (br_pos (lt_set hL)).trans ?_) | (with_reducible refine (getRow_setT hL).trans ?_) | (with_reducible refine (setRC_setT hL (Nat.le_of_ble_eq_true rfl)).trans ?_) | (with_reducible refine (getRow_eqT r1).trans ?_) | (with_reducible refine (setRC_atT r1 (Nat.le_of_ble_eq_true rfl)).trans ?_) | (with_reducible refine (navR_nil _ _ _).trans ?_) | (with_reducible refine (modR_nil _ _ _).trans ?_) | fail)
        conv => lhs; whnf
        exact IH hlt _ _ (by rw [hw, v1]; rfl) (by rw [hrow]; rfl)
      · have e1 := nlt_map (f := iA) (xs := (mix (mkI (upP 1 s.ps s.ps.length) s.qs.length) s.qs k)) (k := k) (by rw [mix_len (mkI_len _ _) hk]; omega)
        obtain rfl : k = s.qs.length := by omega
        have hend2 : (mix (mkI (upP 1 s.ps s.ps.length) s.qs.length) s.qs s.qs.length).map iA = (mkI (upP 1 s.ps s.ps.length) s.qs.length).map iA := by rw [mix_end (mkI_len _ _) rfl]
        rw [hend2]
        rw [hend2] at e1
        clear IH hk
        have hup := up_eq 1 (upP 1 s.ps s.ps.length) s.qs.length
        have c3 : decide (up 1 (upP 1 s.ps s.ps.length) s.qs.length < 0) = false := decide_eq_false (by omega)
        repeat' ((conv => lhs; whnf); first | (with_reducible refine evOps_cons.trans ?_) | (with_reducible refine evOps_nil.trans ?_) | (with_reducible refine ev_seq.trans ?_) | (with_reducible refine ev_region.trans ?_) | (with_reducible refine ev_cond.trans ?_) | (with_reducible refine ev_block.trans ?_) | (with_reducible refine ev_loop.trans ?_) | (with_reducible refine ev_exit.trans ?_) | (with_reducible refine ev_ret.trans ?_) | (with_reducible refine ev_skip.trans ?_) | (with_reducible refine ev_draw.trans ?_) | (with_reducible refine evList_cons.trans ?_) | (with_reducible refine evList_nil.trans ?_) | (with_reducible refine (br_true _ _).trans ?_) | (with_reducible refine (br_false _ _).trans ?_) | (with_reducible refine (br_pos (by assumption)).trans ?_) | (with_reducible refine (br_neg (by assumption)).trans ?_) | (with_reducible refine (bnd_call (f12 _ s hs _ (by decide) (by decide))).trans ?_) | (with_reducible refine (bnd_call (f14 _ s hr)).trans ?_) | (with_reducible refine (bnd_call (f17 _ s p hr)).trans ?_) | (with_reducible refine (bnd_call (f18 _ s p hr)).trans ?_) | (with_reducible refine (bnd_call (f16 _ _ _ hs)).trans ?_) | (with_reducible refine (bnd_call (f16 _ _ _ hp)).trans ?_) | (with_reducible refine (bnd_call (f20 _ (pol s p) hpr)).trans ?_) | (with_reducible refine (navR_nil _ _ _).trans ?_) | (with_reducible refine (modR_nil _ _ _).trans ?_) | fail)

        clear e1 hlt hset1 hset2 hend hend2 hu hup
        have hset1 : (mix (mkP 1 s.ps) s.ps 0).map progA = s.ps.map progA := by rw [mix_zero]
        refine (evLoop_run (fun e k => (e.set 5 (.int .i64 (k : Int))).set 1 (.int .i64 (upP 1 s.ps k))) (fun h k => h.set 8 (some ⟨false, false, true, 8, [[.int .i64 s.a, .int .i64 s.b, .int .i64 s.c, .int .i64 s.d, .int .i64 p, .int .i64 s.f, .lst 1 ((mix (mkP 1 s.ps) s.ps k).map progA), intsA s.qs]]⟩)) (fun k => some ⟨.bool true, []⟩) s.ps.length (by show _ < 18446744073709551616; omega) ((congrArg (fun L => St.mk _ _ (List.set _ 8 (some (Root.mk false false true 8 [[.int .i64 s.a, .int .i64 s.b, .int .i64 s.c, .int .i64 s.d, .int .i64 p, .int .i64 s.f, .lst 1 L, intsA s.qs]])))) hset1).trans rfl) ?_).trans rfl
        intro k f hk IH
        by_cases hlt : k < s.ps.length
        · have e1 := lt_map (f := progA) (xs := (mix (mkP 1 s.ps) s.ps k)) (k := k) (by rw [mix_len (mkP_len _ _) hk]; exact hlt)
          have e2 := nonneg k
          have r1 := mix_get (f := progA) (mkP_len 1 s.ps) hlt
          have hw := wrapS (k := k) (by omega)
          have hm := hl2 _ (getD_mem hlt)
          have hu := upP_le (m := 1) hl2 k hk
          have w1 : up 3 (upP 1 s.ps k) (s.ps.getD k default).length = upP 1 s.ps (k + 1) := by rw [up_eq, upP]
          repeat' ((conv => lhs; whnf); first | (with_reducible refine evOps_cons.trans ?_) | (with_reducible refine evOps_nil.trans ?_) | (with_reducible refine ev_seq.trans ?_) | (with_reducible refine ev_region.trans ?_) | (with_reducible refine ev_cond.trans ?_) | (with_reducible refine ev_block.trans ?_) | (with_reducible refine ev_loop.trans ?_) | (with_reducible refine ev_exit.trans ?_) | (with_reducible refine ev_ret.trans ?_) | (with_reducible refine ev_skip.trans ?_) | (with_reducible refine ev_draw.trans ?_) | (with_reducible refine evList_cons.trans ?_) | (with_reducible refine evList_nil.trans ?_) | (with_reducible refine (br_true _ _).trans ?_) | (with_reducible refine (br_false _ _).trans ?_) | (with_reducible refine (br_pos (by assumption)).trans ?_) | (with_reducible refine (br_neg (by assumption)).trans ?_) | (refine (getRow_eq r1).trans ?_) | (with_reducible refine (navR_atT r1 (by with_unfolding_all rfl)).trans ?_) | (with_reducible refine (modR_atT r1 (by with_unfolding_all rfl)).trans ?_) | (with_reducible refine (navR_nil _ _ _).trans ?_) | (with_reducible refine (modR_nil _ _ _).trans ?_) | fail)
  
          have hset0 : ((mix (mkP 1 s.ps) s.ps k).map progA).set k (progA (mix (mk (upP 1 s.ps k) (s.ps.getD k default).length) (s.ps.getD k default) 0)) = (mix (mkP 1 s.ps) s.ps k).map progA := by rw [mix_zero]; exact set_self r1
          have hL : k < ((mix (mkP 1 s.ps) s.ps k).map progA).length := by rw [List.length_map, mix_len (mkP_len _ _) hk]; exact hlt
          refine (evLoop_run (fun e j => (e.set 5 (.int .i64 (j : Int))).set 1 (.int .i64 (up 3 (upP 1 s.ps k) j))) (fun h j => h.set 8 (some ⟨false, false, true, 8, [[.int .i64 s.a, .int .i64 s.b, .int .i64 s.c, .int .i64 s.d, .int .i64 p, .int .i64 s.f, .lst 1 (((mix (mkP 1 s.ps) s.ps k).map progA).set k (progA (mix (mk (upP 1 s.ps k) (s.ps.getD k default).length) (s.ps.getD k default) j))), intsA s.qs]]⟩)) (fun j => some ⟨.bool true, []⟩) (s.ps.getD k default).length (by show _ < 18446744073709551616; omega) ((congrArg (fun L => St.mk _ _ (List.set _ 8 (some (Root.mk false false true 8 [[.int .i64 s.a, .int .i64 s.b, .int .i64 s.c, .int .i64 s.d, .int .i64 p, .int .i64 s.f, .lst 1 L, intsA s.qs]])))) hset0).trans rfl) ?_).trans rfl
          intro j f' hj IH2
          by_cases hlj : j < (s.ps.getD k default).length
          · have d1 := lt_map (f := opA) (xs := (mix (mk (upP 1 s.ps k) (s.ps.getD k default).length) (s.ps.getD k default) j)) (k := j) (by rw [mix_len (mk_len _ _) hj]; exact hlj)
            have d2 := nonneg j
            have r3 := mix_get (f := opA) (mk_len (upP 1 s.ps k) (s.ps.getD k default).length) hlj
            have hLi : j < ((mix (mk (upP 1 s.ps k) (s.ps.getD k default).length) (s.ps.getD k default) j).map opA).length := by rw [List.length_map, mix_len (mk_len _ _) hj]; exact hlj
            have hwj := wrapS (k := j) (by omega)
            have hup := up_eq 3 (upP 1 s.ps k) j
            have v1 : IntKind.i64.wrap (up 3 (upP 1 s.ps k) j + 1) = up 3 (upP 1 s.ps k) j + 1 := wrapI (by omega) (by omega)
            have v2 : IntKind.i64.wrap (IntKind.i64.wrap (up 3 (upP 1 s.ps k) j + 1) + 1) = up 3 (upP 1 s.ps k) j + 2 := by rw [v1, wrapI (by omega) (by omega)]; omega
            have v3 : IntKind.i64.wrap (IntKind.i64.wrap (IntKind.i64.wrap (up 3 (upP 1 s.ps k) j + 1) + 1) + 1) = up 3 (upP 1 s.ps k) (j + 1) := by rw [v2, wrapI (by omega) (by omega), up]; omega
            have hy : (mk (upP 1 s.ps k) (s.ps.getD k default).length)[j]? = some ⟨up 3 (upP 1 s.ps k) j, up 3 (upP 1 s.ps k) j + 1, up 3 (upP 1 s.ps k) j + 2⟩ := mk_getE hlj
            have hrow : progA (mix (mk (upP 1 s.ps k) (s.ps.getD k default).length) (s.ps.getD k default) (j + 1)) = [.lst 3 (((mix (mk (upP 1 s.ps k) (s.ps.getD k default).length) (s.ps.getD k default) j).map opA).set j [.int .i64 (up 3 (upP 1 s.ps k) j), .int .i64 (IntKind.i64.wrap (up 3 (upP 1 s.ps k) j + 1)), .int .i64 (IntKind.i64.wrap (IntKind.i64.wrap (up 3 (upP 1 s.ps k) j + 1) + 1))])] := by
              rw [v2, v1]
              exact congrArg (fun L => [AV.lst 3 L]) (mix_set (f := opA) (mk_len _ _) hlj hy).symm
            repeat' ((conv => lhs; whnf); first | (with_reducible refine evOps_cons.trans ?_) | (with_reducible refine evOps_nil.trans ?_) | (with_reducible refine ev_seq.trans ?_) | (with_reducible refine ev_region.trans ?_) | (with_reducible refine ev_cond.trans ?_) | (with_reducible refine ev_block.trans ?_) | (with_reducible refine ev_loop.trans ?_) | (with_reducible refine ev_exit.trans ?_) | (with_reducible refine ev_ret.trans ?_) | (with_reducible refine ev_skip.trans ?_) | (with_reducible refine ev_draw.trans ?_) | (with_reducible refine evList_cons.trans ?_) | (with_reducible refine evList_nil.trans ?_) | (with_reducible refine (br_true _ _).trans ?_) | (with_reducible refine (br_false _ _).trans ?_) | (with_reducible refine (br_pos (by assumption)).trans ?_) | (with_reducible refine (br_neg (by assumption)).trans ?_) | (with_reducible refine (navR_atT r1 (by with_unfolding_all rfl)).trans ?_) | (with_reducible refine (modR_atT r1 (by with_unfolding_all rfl)).trans ?_) | (with_reducible refine (navR_atT (set_get hL) (by with_unfolding_all rfl)).trans ?_) | (with_reducible refine (modR_atT (set_get hL) (by with_unfolding_all rfl)).trans ?_) | (with_reducible refine (br_pos (lt_set hL)).trans ?_) | (with_reducible refine (getRow_setT hL).trans ?_) | (with_reducible refine (setRC_setT hL (Nat.le_of_ble_eq_true rfl)).trans ?_) | (with_reducible refine (getRow_eqT r1).trans ?_) | (with_reducible refine (setRC_atT r1 (Nat.le_of_ble_eq_true rfl)).trans ?_) | (with_reducible refine (br_pos (lt_set hLi)).trans ?_) | (with_reducible refine (getRow_setT hLi).trans ?_) | (with_reducible refine (setRC_setT hLi (Nat.le_of_ble_eq_true rfl)).trans ?_) | (with_reducible refine (getRow_eqT r3).trans ?_) | (with_reducible refine (setRC_atT r3 (Nat.le_of_ble_eq_true rfl)).trans ?_) | (with_reducible refine (navR_nil _ _ _).trans ?_) | (with_reducible refine (modR_nil _ _ _).trans ?_) | fail)
            conv => lhs; whnf
            exact IH2 hlj _ _ (by rw [hwj, v3]; rfl) (by rw [hrow]; rfl)
          · have d1 := nlt_map (f := opA) (xs := (mix (mk (upP 1 s.ps k) (s.ps.getD k default).length) (s.ps.getD k default) j)) (k := j) (by rw [mix_len (mk_len _ _) hj]; omega)
            have hje : j = (s.ps.getD k default).length := by omega
            have w2 : up 3 (upP 1 s.ps k) j = upP 1 s.ps (k + 1) := by rw [hje, w1]
            have hy : (mkP 1 s.ps)[k]? = some (mk (upP 1 s.ps k) (s.ps.getD k default).length) := mkP_getE hlt
            have hrow : (mix (mkP 1 s.ps) s.ps (k + 1)).map progA = ((mix (mkP 1 s.ps) s.ps k).map progA).set k (progA (mix (mk (upP 1 s.ps k) (s.ps.getD k default).length) (s.ps.getD k default) j)) := by
              rw [mix_end (mk_len _ _) hje]
              exact (mix_set (f := progA) (mkP_len _ _) hlt hy).symm
            repeat' ((conv => lhs; whnf); first | (with_reducible refine evOps_cons.trans ?_) | (with_reducible refine evOps_nil.trans ?_) | (with_reducible refine ev_seq.trans ?_) | (with_reducible refine ev_region.trans ?_) | (with_reducible refine ev_cond.trans ?_) | (with_reducible refine ev_block.trans ?_) | (with_reducible refine ev_loop.trans ?_) | (with_reducible refine ev_exit.trans ?_) | (with_reducible refine ev_ret.trans ?_) | (with_reducible refine ev_skip.trans ?_) | (with_reducible refine ev_draw.trans ?_) | (with_reducible refine evList_cons.trans ?_) | (with_reducible refine evList_nil.trans ?_) | (with_reducible refine (br_true _ _).trans ?_) | (with_reducible refine (br_false _ _).trans ?_) | (with_reducible refine (br_pos (by assumption)).trans ?_) | (with_reducible refine (br_neg (by assumption)).trans ?_) | (with_reducible refine (navR_atT r1 (by with_unfolding_all rfl)).trans ?_) | (with_reducible refine (modR_atT r1 (by with_unfolding_all rfl)).trans ?_) | (with_reducible refine (navR_atT (set_get hL) (by with_unfolding_all rfl)).trans ?_) | (with_reducible refine (modR_atT (set_get hL) (by with_unfolding_all rfl)).trans ?_) | (with_reducible refine (br_pos (lt_set hL)).trans ?_) | (with_reducible refine (getRow_setT hL).trans ?_) | (with_reducible refine (setRC_setT hL (Nat.le_of_ble_eq_true rfl)).trans ?_) | (with_reducible refine (getRow_eqT r1).trans ?_) | (with_reducible refine (setRC_atT r1 (Nat.le_of_ble_eq_true rfl)).trans ?_) | (with_reducible refine (navR_nil _ _ _).trans ?_) | (with_reducible refine (modR_nil _ _ _).trans ?_) | fail)
            conv => lhs; whnf
            exact IH hlt _ _ (by rw [hw, ← w2]; rfl) (by rw [hrow]; rfl)
        · have e1 := nlt_map (f := progA) (xs := (mix (mkP 1 s.ps) s.ps k)) (k := k) (by rw [mix_len (mkP_len _ _) hk]; omega)
          obtain rfl : k = s.ps.length := by omega
          repeat' ((conv => lhs; whnf); first | (with_reducible refine evOps_cons.trans ?_) | (with_reducible refine evOps_nil.trans ?_) | (with_reducible refine ev_seq.trans ?_) | (with_reducible refine ev_region.trans ?_) | (with_reducible refine ev_cond.trans ?_) | (with_reducible refine ev_block.trans ?_) | (with_reducible refine ev_loop.trans ?_) | (with_reducible refine ev_exit.trans ?_) | (with_reducible refine ev_ret.trans ?_) | (with_reducible refine ev_skip.trans ?_) | (with_reducible refine ev_draw.trans ?_) | (with_reducible refine evList_cons.trans ?_) | (with_reducible refine evList_nil.trans ?_) | (with_reducible refine (br_true _ _).trans ?_) | (with_reducible refine (br_false _ _).trans ?_) | (with_reducible refine (br_pos (by assumption)).trans ?_) | (with_reducible refine (br_neg (by assumption)).trans ?_) | (with_reducible refine (navR_nil _ _ _).trans ?_) | (with_reducible refine (modR_nil _ _ _).trans ?_) | fail)
  
          have hu := upP_le (m := 1) hl2 s.ps.length (Nat.le_refl _)
          have hset2 : (mix (mkI (upP 1 s.ps s.ps.length) s.qs.length) s.qs 0).map iA = s.qs.map iA := by rw [mix_zero]
          have hend : (mix (mkP 1 s.ps) s.ps s.ps.length).map progA = (mkP 1 s.ps).map progA := by rw [mix_end (mkP_len _ _) rfl]
          refine (evLoop_run (fun e k => (e.set 5 (.int .i64 (k : Int))).set 1 (.int .i64 (up 1 (upP 1 s.ps s.ps.length) k))) (fun h k => h.set 8 (some ⟨false, false, true, 8, [[.int .i64 s.a, .int .i64 s.b, .int .i64 s.c, .int .i64 s.d, .int .i64 p, .int .i64 s.f, progsA (mkP 1 s.ps), .lst 1 ((mix (mkI (upP 1 s.ps s.ps.length) s.qs.length) s.qs k).map iA)]]⟩)) (fun k => some ⟨.bool true, []⟩) s.qs.length (by show _ < 18446744073709551616; omega) ((congrArg (fun L => St.mk _ _ (List.set _ 8 (some (Root.mk false false true 8 [[.int .i64 s.a, .int .i64 s.b, .int .i64 s.c, .int .i64 s.d, .int .i64 p, .int .i64 s.f, .lst 1 L, .lst 1 ((mix (mkI (upP 1 s.ps s.ps.length) s.qs.length) s.qs 0).map iA)]])))) hend.symm).trans ((congrArg (fun L => St.mk _ _ (List.set _ 8 (some (Root.mk false false true 8 [[.int .i64 s.a, .int .i64 s.b, .int .i64 s.c, .int .i64 s.d, .int .i64 p, .int .i64 s.f, .lst 1 ((mix (mkP 1 s.ps) s.ps s.ps.length).map progA), .lst 1 L]])))) hset2).trans rfl)) ?_).trans rfl
          clear IH hk
          intro k f hk IH
          by_cases hlt : k < s.qs.length
          · have e1 := lt_map (f := iA) (xs := (mix (mkI (upP 1 s.ps s.ps.length) s.qs.length) s.qs k)) (k := k) (by rw [mix_len (mkI_len _ _) hk]; exact hlt)
            have e2 := nonneg k
            have r1 := mix_get (f := iA) (mkI_len (upP 1 s.ps s.ps.length) s.qs.length) hlt
            have hw := wrapS (k := k) (by omega)
            have hup := up_eq 1 (upP 1 s.ps s.ps.length) k
            have v1 : IntKind.i64.wrap (up 1 (upP 1 s.ps s.ps.length) k + 1) = up 1 (upP 1 s.ps s.ps.length) (k + 1) := wrapI (by omega) (by omega)
            have hy : (mkI (upP 1 s.ps s.ps.length) s.qs.length)[k]? = some (up 1 (upP 1 s.ps s.ps.length) k) := mkI_getE hlt
            have hrow : (mix (mkI (upP 1 s.ps s.ps.length) s.qs.length) s.qs (k + 1)).map iA = ((mix (mkI (upP 1 s.ps s.ps.length) s.qs.length) s.qs k).map iA).set k [.int .i64 (up 1 (upP 1 s.ps s.ps.length) k)] := (mix_set (f := iA) (mkI_len _ _) hlt hy).symm
            repeat' ((conv => lhs; whnf); first | (with_reducible refine evOps_cons.trans ?_) | (with_reducible refine evOps_nil.trans ?_) | (with_reducible refine ev_seq.trans ?_) | (with_reducible refine ev_region.trans ?_) | (with_reducible refine ev_cond.trans ?_) | (with_reducible refine ev_block.trans ?_) | (with_reducible refine ev_loop.trans ?_) | (with_reducible refine ev_exit.trans ?_) | (with_reducible refine ev_ret.trans ?_) | (with_reducible refine ev_skip.trans ?_) | (with_reducible refine ev_draw.trans ?_) | (with_reducible refine evList_cons.trans ?_) | (with_reducible refine evList_nil.trans ?_) | (with_reducible refine (br_true _ _).trans ?_) | (with_reducible refine (br_false _ _).trans ?_) | (with_reducible refine (br_pos (by assumption)).trans ?_) | (with_reducible refine (br_neg (by assumption)).trans ?_) | (with_reducible refine (navR_atT r1 (by with_unfolding_all rfl)).trans ?_) | (with_reducible refine (modR_atT r1 (by with_unfolding_all rfl)).trans ?_) | (with_reducible refine (br_pos (lt_set hL)).trans ?_) | (with_reducible refine (getRow_setT hL).trans ?_) | (with_reducible refine (setRC_setT hL (Nat.le_of_ble_eq_true rfl)).trans ?_) | (with_reducible refine (getRow_eqT r1).trans ?_) | (with_reducible refine (setRC_atT r1 (Nat.le_of_ble_eq_true rfl)).trans ?_) | (with_reducible refine (navR_nil _ _ _).trans ?_) | (with_reducible refine (modR_nil _ _ _).trans ?_) | fail)
            conv => lhs; whnf
            exact IH hlt _ _ (by rw [hw, v1]; rfl) (by rw [hrow]; rfl)
          · have e1 := nlt_map (f := iA) (xs := (mix (mkI (upP 1 s.ps s.ps.length) s.qs.length) s.qs k)) (k := k) (by rw [mix_len (mkI_len _ _) hk]; omega)
            obtain rfl : k = s.qs.length := by omega
            have hend2 : (mix (mkI (upP 1 s.ps s.ps.length) s.qs.length) s.qs s.qs.length).map iA = (mkI (upP 1 s.ps s.ps.length) s.qs.length).map iA := by rw [mix_end (mkI_len _ _) rfl]
            rw [hend2]
            rw [hend2] at e1
            clear IH hk
            have hup := up_eq 1 (upP 1 s.ps s.ps.length) s.qs.length
            have c3 : decide (up 1 (upP 1 s.ps s.ps.length) s.qs.length < 0) = false := decide_eq_false (by omega)
            have c4 : (up 1 (upP 1 s.ps s.ps.length) s.qs.length != up 1 (upP 1 s.ps s.ps.length) s.qs.length) = false := bne_f rfl
            repeat' ((conv => lhs; whnf); first | (with_reducible refine evOps_cons.trans ?_) | (with_reducible refine evOps_nil.trans ?_) | (with_reducible refine ev_seq.trans ?_) | (with_reducible refine ev_region.trans ?_) | (with_reducible refine ev_cond.trans ?_) | (with_reducible refine ev_block.trans ?_) | (with_reducible refine ev_loop.trans ?_) | (with_reducible refine ev_exit.trans ?_) | (with_reducible refine ev_ret.trans ?_) | (with_reducible refine ev_skip.trans ?_) | (with_reducible refine ev_draw.trans ?_) | (with_reducible refine evList_cons.trans ?_) | (with_reducible refine evList_nil.trans ?_) | (with_reducible refine (br_true _ _).trans ?_) | (with_reducible refine (br_false _ _).trans ?_) | (with_reducible refine (br_pos (by assumption)).trans ?_) | (with_reducible refine (br_neg (by assumption)).trans ?_) | (with_reducible refine (bnd_call (f12 _ s hs _ (by decide) (by decide))).trans ?_) | (with_reducible refine (bnd_call (f14 _ s hr)).trans ?_) | (with_reducible refine (bnd_call (f17 _ s p hr)).trans ?_) | (with_reducible refine (bnd_call (f18 _ s p hr)).trans ?_) | (with_reducible refine (bnd_call (f16 _ _ _ hs)).trans ?_) | (with_reducible refine (bnd_call (f16 _ _ _ hp)).trans ?_) | (with_reducible refine (bnd_call (f20 _ (pol s p) hpr)).trans ?_) | (with_reducible refine (navR_nil _ _ _).trans ?_) | (with_reducible refine (modR_nil _ _ _).trans ?_) | fail)
            conv => lhs; whnf
end Go.Proofs.Ytnhggokeblijpaa.A
