/- What the functions that WithPolicy reaches answer, part 1: no condition. -/
import Derived.Test.YtnhggokeblijpaaCfg
import Derived.Laws.BitsLemmas
set_option linter.unusedVariables false
set_option linter.unusedSimpArgs false
namespace Go.Proofs.Ytnhggokeblijpaa.A
open Go Go.Abs
set_option maxRecDepth 100000
theorem okB {x y : Bool} (h : x = y) : some (⟨.bool x, []⟩ : Res) = some ⟨.bool y, []⟩ := by rw [h]
theorem okI {x y : Int} (h : x = y) : some (⟨.int .i64 x, []⟩ : Res) = some ⟨.int .i64 y, []⟩ := by rw [h]
theorem f21 (n : Nat) (a b c : Int) : callP cfg (n+1) 21 [.int .i64 a, .int .i64 b, .int .i64 c] = some ⟨.bool (decide (b ≤ a) && decide (a ≤ c)), []⟩ := by
  rw [callP_succ]
  repeat' ((conv => lhs; whnf); first | (with_reducible refine evOps_cons.trans ?_) | (with_reducible refine evOps_nil.trans ?_) | (with_reducible refine ev_seq.trans ?_) | (with_reducible refine ev_region.trans ?_) | (with_reducible refine ev_cond.trans ?_) | (with_reducible refine ev_block.trans ?_) | (with_reducible refine ev_loop.trans ?_) | (with_reducible refine ev_exit.trans ?_) | (with_reducible refine ev_ret.trans ?_) | (with_reducible refine ev_skip.trans ?_) | (with_reducible refine ev_draw.trans ?_) | (with_reducible refine evList_cons.trans ?_) | (with_reducible refine evList_nil.trans ?_) | (with_reducible refine (br_true _ _).trans ?_) | (with_reducible refine (br_false _ _).trans ?_) | (with_reducible refine (br_pos (by assumption)).trans ?_) | (with_reducible refine (br_neg (by assumption)).trans ?_) | (refine br_if (fun _ => ?_) (fun _ => ?_)))
  all_goals (conv => lhs; whnf)
  all_goals (refine okB ?_; simp_all <;> omega)
theorem f22 (n : Nat) (a b c : Int) : callP cfg (n+1) 22 [.int .i64 a, .int .i64 b, .int .i64 c] = some ⟨.bool (decide (b ≤ a) && decide (a ≤ c)), []⟩ := by
  rw [callP_succ]
  repeat' ((conv => lhs; whnf); first | (with_reducible refine evOps_cons.trans ?_) | (with_reducible refine evOps_nil.trans ?_) | (with_reducible refine ev_seq.trans ?_) | (with_reducible refine ev_region.trans ?_) | (with_reducible refine ev_cond.trans ?_) | (with_reducible refine ev_block.trans ?_) | (with_reducible refine ev_loop.trans ?_) | (with_reducible refine ev_exit.trans ?_) | (with_reducible refine ev_ret.trans ?_) | (with_reducible refine ev_skip.trans ?_) | (with_reducible refine ev_draw.trans ?_) | (with_reducible refine evList_cons.trans ?_) | (with_reducible refine evList_nil.trans ?_) | (with_reducible refine (br_true _ _).trans ?_) | (with_reducible refine (br_false _ _).trans ?_) | (with_reducible refine (br_pos (by assumption)).trans ?_) | (with_reducible refine (br_neg (by assumption)).trans ?_) | (refine br_if (fun _ => ?_) (fun _ => ?_)))
  all_goals (conv => lhs; whnf)
  all_goals (refine okB ?_; simp_all <;> omega)
abbrev cfgA (a b c d e f : Int) : List AV := [.int .i64 a, .int .i64 b, .int .i64 c, .int .i64 d, .int .i64 e, .int .i64 f]
def isCfg (a b c d e f : Int) : Bool := decide (1 ≤ a ∧ a ≤ 4 ∧ 1 ≤ b ∧ b ≤ 4 ∧ 1 ≤ c ∧ c ≤ 24 ∧ 1 ≤ d ∧ d ≤ 4 ∧ 0 ≤ e ∧ e ≤ 2 ∧ 1 ≤ f ∧ f ≤ 99)
theorem f23 (n : Nat) (a b c d e f : Int) : callP cfg (n+2) 23 [.agg (cfgA a b c d e f)] = some ⟨.bool (isCfg a b c d e f), []⟩ := by
  rw [callP_succ]
  repeat' ((conv => lhs; whnf); first | (with_reducible refine evOps_cons.trans ?_) | (with_reducible refine evOps_nil.trans ?_) | (with_reducible refine ev_seq.trans ?_) | (with_reducible refine ev_region.trans ?_) | (with_reducible refine ev_cond.trans ?_) | (with_reducible refine ev_block.trans ?_) | (with_reducible refine ev_loop.trans ?_) | (with_reducible refine ev_exit.trans ?_) | (with_reducible refine ev_ret.trans ?_) | (with_reducible refine ev_skip.trans ?_) | (with_reducible refine ev_draw.trans ?_) | (with_reducible refine evList_cons.trans ?_) | (with_reducible refine evList_nil.trans ?_) | (with_reducible refine (br_true _ _).trans ?_) | (with_reducible refine (br_false _ _).trans ?_) | (with_reducible refine (br_pos (by assumption)).trans ?_) | (with_reducible refine (br_neg (by assumption)).trans ?_) | (with_reducible refine (bnd_call (f21 _ _ _ _)).trans ?_) | (refine br_if (fun _ => ?_) (fun _ => ?_)))
  all_goals (conv => lhs; whnf)
  all_goals (refine okB ?_; unfold isCfg; simp_all <;> omega)
theorem f24 (n : Nat) (a b c d e f : Int) : callP cfg (n+2) 24 [.agg (cfgA a b c d e f)] = some ⟨.bool (isCfg a b c d e f), []⟩ := by
  rw [callP_succ]
  repeat' ((conv => lhs; whnf); first | (with_reducible refine evOps_cons.trans ?_) | (with_reducible refine evOps_nil.trans ?_) | (with_reducible refine ev_seq.trans ?_) | (with_reducible refine ev_region.trans ?_) | (with_reducible refine ev_cond.trans ?_) | (with_reducible refine ev_block.trans ?_) | (with_reducible refine ev_loop.trans ?_) | (with_reducible refine ev_exit.trans ?_) | (with_reducible refine ev_ret.trans ?_) | (with_reducible refine ev_skip.trans ?_) | (with_reducible refine ev_draw.trans ?_) | (with_reducible refine evList_cons.trans ?_) | (with_reducible refine evList_nil.trans ?_) | (with_reducible refine (br_true _ _).trans ?_) | (with_reducible refine (br_false _ _).trans ?_) | (with_reducible refine (br_pos (by assumption)).trans ?_) | (with_reducible refine (br_neg (by assumption)).trans ?_) | (with_reducible refine (bnd_call (f22 _ _ _ _)).trans ?_) | (refine br_if (fun _ => ?_) (fun _ => ?_)))
  all_goals (conv => lhs; whnf)
  all_goals (refine okB ?_; unfold isCfg; simp_all <;> omega)
theorem f10 (n : Nat) (a b c d e f : Int) : callP cfg (n+1) 10 [.agg (cfgA a b c d e f)] = some ⟨.agg (cfgA a b c d e f), []⟩ := by
  rw [callP_succ]
  repeat' ((conv => lhs; whnf); first | (with_reducible refine evOps_cons.trans ?_) | (with_reducible refine evOps_nil.trans ?_) | (with_reducible refine ev_seq.trans ?_) | (with_reducible refine ev_region.trans ?_) | (with_reducible refine ev_cond.trans ?_) | (with_reducible refine ev_block.trans ?_) | (with_reducible refine ev_loop.trans ?_) | (with_reducible refine ev_exit.trans ?_) | (with_reducible refine ev_ret.trans ?_) | (with_reducible refine ev_skip.trans ?_) | (with_reducible refine ev_draw.trans ?_) | (with_reducible refine evList_cons.trans ?_) | (with_reducible refine evList_nil.trans ?_) | (with_reducible refine (br_true _ _).trans ?_) | (with_reducible refine (br_false _ _).trans ?_) | (with_reducible refine (br_pos (by assumption)).trans ?_) | (with_reducible refine (br_neg (by assumption)).trans ?_) | (refine br_if (fun _ => ?_) (fun _ => ?_)))
  all_goals (conv => lhs; whnf)
  all_goals rfl
def soloV (a c : Int) : Int := IntKind.i64.wrap (IntKind.i64.wrap (60 + IntKind.i64.wrap (6 * a)) + IntKind.i64.wrap (IntKind.i64.wrap (IntKind.i64.wrap (2 * c) + 1) * IntKind.i64.wrap (IntKind.i64.wrap (14 * c) + 20)))
def soloB (a b c d e f : Int) : Int := if isCfg a b c d e f then soloV a c else 0
theorem f9 (n : Nat) (a b c d e f : Int) : callP cfg (n+3) 9 [.agg (cfgA a b c d e f)] = some ⟨.int .i64 (soloB a b c d e f), []⟩ := by
  rw [callP_succ]
  unfold soloB
  by_cases hc : isCfg a b c d e f = true
  · rw [if_pos hc]
    have hn : (!isCfg a b c d e f) = false := by simp [hc]
    repeat' ((conv => lhs; whnf); first | (with_reducible refine evOps_cons.trans ?_) | (with_reducible refine evOps_nil.trans ?_) | (with_reducible refine ev_seq.trans ?_) | (with_reducible refine ev_region.trans ?_) | (with_reducible refine ev_cond.trans ?_) | (with_reducible refine ev_block.trans ?_) | (with_reducible refine ev_loop.trans ?_) | (with_reducible refine ev_exit.trans ?_) | (with_reducible refine ev_ret.trans ?_) | (with_reducible refine ev_skip.trans ?_) | (with_reducible refine ev_draw.trans ?_) | (with_reducible refine evList_cons.trans ?_) | (with_reducible refine evList_nil.trans ?_) | (with_reducible refine (br_true _ _).trans ?_) | (with_reducible refine (br_false _ _).trans ?_) | (with_reducible refine (br_pos (by assumption)).trans ?_) | (with_reducible refine (br_neg (by assumption)).trans ?_) | (with_reducible refine (bnd_call (f23 _ _ _ _ _ _ _)).trans ?_) | (refine br_if (fun _ => ?_) (fun _ => ?_)))
    all_goals (conv => lhs; whnf)
    all_goals rfl
  · rw [if_neg hc]
    have hn : (!isCfg a b c d e f) = true := by simpa using hc
    repeat' ((conv => lhs; whnf); first | (with_reducible refine evOps_cons.trans ?_) | (with_reducible refine evOps_nil.trans ?_) | (with_reducible refine ev_seq.trans ?_) | (with_reducible refine ev_region.trans ?_) | (with_reducible refine ev_cond.trans ?_) | (with_reducible refine ev_block.trans ?_) | (with_reducible refine ev_loop.trans ?_) | (with_reducible refine ev_exit.trans ?_) | (with_reducible refine ev_ret.trans ?_) | (with_reducible refine ev_skip.trans ?_) | (with_reducible refine ev_draw.trans ?_) | (with_reducible refine evList_cons.trans ?_) | (with_reducible refine evList_nil.trans ?_) | (with_reducible refine (br_true _ _).trans ?_) | (with_reducible refine (br_false _ _).trans ?_) | (with_reducible refine (br_pos (by assumption)).trans ?_) | (with_reducible refine (br_neg (by assumption)).trans ?_) | (with_reducible refine (bnd_call (f23 _ _ _ _ _ _ _)).trans ?_) | (refine br_if (fun _ => ?_) (fun _ => ?_)))
    all_goals (conv => lhs; whnf)
    all_goals rfl
theorem f11 (n : Nat) (a b c d e f : Int) : callP cfg (n+3) 11 [.agg (cfgA a b c d e f)] = some ⟨.int .i64 (soloB a b c d e f), []⟩ := by
  rw [callP_succ]
  unfold soloB
  by_cases hc : isCfg a b c d e f = true
  · rw [if_pos hc]
    have hn : (!isCfg a b c d e f) = false := by simp [hc]
    repeat' ((conv => lhs; whnf); first | (with_reducible refine evOps_cons.trans ?_) | (with_reducible refine evOps_nil.trans ?_) | (with_reducible refine ev_seq.trans ?_) | (with_reducible refine ev_region.trans ?_) | (with_reducible refine ev_cond.trans ?_) | (with_reducible refine ev_block.trans ?_) | (with_reducible refine ev_loop.trans ?_) | (with_reducible refine ev_exit.trans ?_) | (with_reducible refine ev_ret.trans ?_) | (with_reducible refine ev_skip.trans ?_) | (with_reducible refine ev_draw.trans ?_) | (with_reducible refine evList_cons.trans ?_) | (with_reducible refine evList_nil.trans ?_) | (with_reducible refine (br_true _ _).trans ?_) | (with_reducible refine (br_false _ _).trans ?_) | (with_reducible refine (br_pos (by assumption)).trans ?_) | (with_reducible refine (br_neg (by assumption)).trans ?_) | (with_reducible refine (bnd_call (f24 _ _ _ _ _ _ _)).trans ?_) | (refine br_if (fun _ => ?_) (fun _ => ?_)))
    all_goals (conv => lhs; whnf)
    all_goals rfl
  · rw [if_neg hc]
    have hn : (!isCfg a b c d e f) = true := by simpa using hc
    repeat' ((conv => lhs; whnf); first | (with_reducible refine evOps_cons.trans ?_) | (with_reducible refine evOps_nil.trans ?_) | (with_reducible refine ev_seq.trans ?_) | (with_reducible refine ev_region.trans ?_) | (with_reducible refine ev_cond.trans ?_) | (with_reducible refine ev_block.trans ?_) | (with_reducible refine ev_loop.trans ?_) | (with_reducible refine ev_exit.trans ?_) | (with_reducible refine ev_ret.trans ?_) | (with_reducible refine ev_skip.trans ?_) | (with_reducible refine ev_draw.trans ?_) | (with_reducible refine evList_cons.trans ?_) | (with_reducible refine evList_nil.trans ?_) | (with_reducible refine (br_true _ _).trans ?_) | (with_reducible refine (br_false _ _).trans ?_) | (with_reducible refine (br_pos (by assumption)).trans ?_) | (with_reducible refine (br_neg (by assumption)).trans ?_) | (with_reducible refine (bnd_call (f24 _ _ _ _ _ _ _)).trans ?_) | (refine br_if (fun _ => ?_) (fun _ => ?_)))
    all_goals (conv => lhs; whnf)
    all_goals rfl
theorem f4 (n : Nat) (a b c d e f : Int) : callP cfg (n+4) 4 [.agg (cfgA a b c d e f)] = some ⟨.bool true, []⟩ := by
  rw [callP_succ]
  have hn : (soloB a b c d e f != soloB a b c d e f) = false := by simp
  repeat' ((conv => lhs; whnf); first | (with_reducible refine evOps_cons.trans ?_) | (with_reducible refine evOps_nil.trans ?_) | (with_reducible refine ev_seq.trans ?_) | (with_reducible refine ev_region.trans ?_) | (with_reducible refine ev_cond.trans ?_) | (with_reducible refine ev_block.trans ?_) | (with_reducible refine ev_loop.trans ?_) | (with_reducible refine ev_exit.trans ?_) | (with_reducible refine ev_ret.trans ?_) | (with_reducible refine ev_skip.trans ?_) | (with_reducible refine ev_draw.trans ?_) | (with_reducible refine evList_cons.trans ?_) | (with_reducible refine evList_nil.trans ?_) | (with_reducible refine (br_true _ _).trans ?_) | (with_reducible refine (br_false _ _).trans ?_) | (with_reducible refine (br_pos (by assumption)).trans ?_) | (with_reducible refine (br_neg (by assumption)).trans ?_) | (with_reducible refine (bnd_call (f10 _ _ _ _ _ _ _)).trans ?_) | (with_reducible refine (bnd_call (f9 _ _ _ _ _ _ _)).trans ?_) | (with_reducible refine (bnd_call (f11 _ _ _ _ _ _ _)).trans ?_) | (refine br_if (fun _ => ?_) (fun _ => ?_)))
  all_goals (conv => lhs; whnf)
  all_goals rfl
end Go.Proofs.Ytnhggokeblijpaa.A
namespace Go.Proofs.Ytnhggokeblijpaa.A
open Go Go.Abs
set_option maxRecDepth 100000
structure Op3 where
  k : Int
  key : Int
  v : Int
  deriving Inhabited, DecidableEq
abbrev opA (o : Op3) : List AV := [.int .i64 o.k, .int .i64 o.key, .int .i64 o.v]
def isOpB (o : Op3) : Bool := if o.k = 1 ∨ o.k = 4 ∨ o.k = 5 then decide (o.key = 0 ∧ o.v = 0) else if o.k = 2 then decide (0 ≤ o.key ∧ o.key ≤ 9 ∧ o.v = 0) else if o.k = 3 then decide (0 ≤ o.key ∧ o.key ≤ 9 ∧ 0 ≤ o.v ∧ o.v ≤ 99) else false
theorem f53 (n : Nat) (o : Op3) : callP cfg (n+1) 53 [.agg (opA o)] = some ⟨.agg (opA o), []⟩ := by
  rw [callP_succ]
  repeat' ((conv => lhs; whnf); first | (with_reducible refine evOps_cons.trans ?_) | (with_reducible refine evOps_nil.trans ?_) | (with_reducible refine ev_seq.trans ?_) | (with_reducible refine ev_region.trans ?_) | (with_reducible refine ev_cond.trans ?_) | (with_reducible refine ev_block.trans ?_) | (with_reducible refine ev_loop.trans ?_) | (with_reducible refine ev_exit.trans ?_) | (with_reducible refine ev_ret.trans ?_) | (with_reducible refine ev_skip.trans ?_) | (with_reducible refine ev_draw.trans ?_) | (with_reducible refine evList_cons.trans ?_) | (with_reducible refine evList_nil.trans ?_) | (with_reducible refine (br_true _ _).trans ?_) | (with_reducible refine (br_false _ _).trans ?_) | (refine br_if (fun _ => ?_) (fun _ => ?_)))
  all_goals (conv => lhs; whnf)
theorem f56 (n : Nat) (a b : Op3) : callP cfg (n+1) 56 [.agg (opA a), .agg (opA b)] = some ⟨.bool (decide (a = b)), []⟩ := by
  rw [callP_succ]
  obtain ⟨a1, a2, a3⟩ := a
  obtain ⟨b1, b2, b3⟩ := b
  repeat' ((conv => lhs; whnf); first | (with_reducible refine evOps_cons.trans ?_) | (with_reducible refine evOps_nil.trans ?_) | (with_reducible refine ev_seq.trans ?_) | (with_reducible refine ev_region.trans ?_) | (with_reducible refine ev_cond.trans ?_) | (with_reducible refine ev_block.trans ?_) | (with_reducible refine ev_loop.trans ?_) | (with_reducible refine ev_exit.trans ?_) | (with_reducible refine ev_ret.trans ?_) | (with_reducible refine ev_skip.trans ?_) | (with_reducible refine ev_draw.trans ?_) | (with_reducible refine evList_cons.trans ?_) | (with_reducible refine evList_nil.trans ?_) | (with_reducible refine (br_true _ _).trans ?_) | (with_reducible refine (br_false _ _).trans ?_) | (with_reducible refine (br_pos (by assumption)).trans ?_) | (with_reducible refine (br_neg (by assumption)).trans ?_) | (refine br_if (fun _ => ?_) (fun _ => ?_)))
  all_goals (conv => lhs; whnf)
  all_goals (refine okB ?_; simp_all)
theorem f33 (n : Nat) (a b c d e f a' b' c' d' e' f' : Int) : callP cfg (n+1) 33 [.agg (cfgA a b c d e f), .agg (cfgA a' b' c' d' e' f')] = some ⟨.bool (decide (a = a' ∧ b = b' ∧ c = c' ∧ d = d' ∧ e = e' ∧ f = f')), []⟩ := by
  rw [callP_succ]
  repeat' ((conv => lhs; whnf); first | (with_reducible refine evOps_cons.trans ?_) | (with_reducible refine evOps_nil.trans ?_) | (with_reducible refine ev_seq.trans ?_) | (with_reducible refine ev_region.trans ?_) | (with_reducible refine ev_cond.trans ?_) | (with_reducible refine ev_block.trans ?_) | (with_reducible refine ev_loop.trans ?_) | (with_reducible refine ev_exit.trans ?_) | (with_reducible refine ev_ret.trans ?_) | (with_reducible refine ev_skip.trans ?_) | (with_reducible refine ev_draw.trans ?_) | (with_reducible refine evList_cons.trans ?_) | (with_reducible refine evList_nil.trans ?_) | (with_reducible refine (br_true _ _).trans ?_) | (with_reducible refine (br_false _ _).trans ?_) | (with_reducible refine (br_pos (by assumption)).trans ?_) | (with_reducible refine (br_neg (by assumption)).trans ?_) | (refine br_if (fun _ => ?_) (fun _ => ?_)))
  all_goals (conv => lhs; whnf)
  all_goals (refine okB ?_; simp_all)
theorem f43 (n : Nat) (o : Op3) : callP cfg (n+2) 43 [.agg (opA o)] = some ⟨.bool (isOpB o), []⟩ := by
  rw [callP_succ]
  obtain ⟨a1, a2, a3⟩ := o
  repeat' ((conv => lhs; whnf); first | (with_reducible refine evOps_cons.trans ?_) | (with_reducible refine evOps_nil.trans ?_) | (with_reducible refine ev_seq.trans ?_) | (with_reducible refine ev_region.trans ?_) | (with_reducible refine ev_cond.trans ?_) | (with_reducible refine ev_block.trans ?_) | (with_reducible refine ev_loop.trans ?_) | (with_reducible refine ev_exit.trans ?_) | (with_reducible refine ev_ret.trans ?_) | (with_reducible refine ev_skip.trans ?_) | (with_reducible refine ev_draw.trans ?_) | (with_reducible refine evList_cons.trans ?_) | (with_reducible refine evList_nil.trans ?_) | (with_reducible refine (br_true _ _).trans ?_) | (with_reducible refine (br_false _ _).trans ?_) | (with_reducible refine (br_pos (by assumption)).trans ?_) | (with_reducible refine (br_neg (by assumption)).trans ?_) | (with_reducible refine (bnd_call (f21 _ _ _ _)).trans ?_) | (refine br_if (fun _ => ?_) (fun _ => ?_)))
  all_goals (conv => lhs; whnf)
  all_goals (refine okB ?_; unfold isOpB; first | (simp_all; done) | grind)
theorem f55 (n : Nat) (o : Op3) : callP cfg (n+2) 55 [.agg (opA o)] = some ⟨.bool (isOpB o), []⟩ := by
  rw [callP_succ]
  obtain ⟨a1, a2, a3⟩ := o
  repeat' ((conv => lhs; whnf); first | (with_reducible refine evOps_cons.trans ?_) | (with_reducible refine evOps_nil.trans ?_) | (with_reducible refine ev_seq.trans ?_) | (with_reducible refine ev_region.trans ?_) | (with_reducible refine ev_cond.trans ?_) | (with_reducible refine ev_block.trans ?_) | (with_reducible refine ev_loop.trans ?_) | (with_reducible refine ev_exit.trans ?_) | (with_reducible refine ev_ret.trans ?_) | (with_reducible refine ev_skip.trans ?_) | (with_reducible refine ev_draw.trans ?_) | (with_reducible refine evList_cons.trans ?_) | (with_reducible refine evList_nil.trans ?_) | (with_reducible refine (br_true _ _).trans ?_) | (with_reducible refine (br_false _ _).trans ?_) | (with_reducible refine (br_pos (by assumption)).trans ?_) | (with_reducible refine (br_neg (by assumption)).trans ?_) | (with_reducible refine (bnd_call (f22 _ _ _ _)).trans ?_) | (refine br_if (fun _ => ?_) (fun _ => ?_)))
  all_goals (conv => lhs; whnf)
  all_goals (refine okB ?_; unfold isOpB; first | (simp_all; done) | grind)
abbrev pick9 (a : Int) : Bool := decide (0 ≤ a) && decide (a ≤ 9)
theorem f32 (n : Nat) (a : Int) : callP cfg (n+2) 32 [.int .i64 a] = some ⟨.bool (!pick9 a), []⟩ := by
  rw [callP_succ]
  repeat' ((conv => lhs; whnf); first | (with_reducible refine evOps_cons.trans ?_) | (with_reducible refine evOps_nil.trans ?_) | (with_reducible refine ev_seq.trans ?_) | (with_reducible refine ev_region.trans ?_) | (with_reducible refine ev_cond.trans ?_) | (with_reducible refine ev_block.trans ?_) | (with_reducible refine ev_loop.trans ?_) | (with_reducible refine ev_exit.trans ?_) | (with_reducible refine ev_ret.trans ?_) | (with_reducible refine ev_skip.trans ?_) | (with_reducible refine ev_draw.trans ?_) | (with_reducible refine evList_cons.trans ?_) | (with_reducible refine evList_nil.trans ?_) | (with_reducible refine (br_true _ _).trans ?_) | (with_reducible refine (br_false _ _).trans ?_) | (with_reducible refine (bnd_call (f22 _ _ _ _)).trans ?_) | (refine br_if (fun _ => ?_) (fun _ => ?_)))
  all_goals (conv => lhs; whnf)
end Go.Proofs.Ytnhggokeblijpaa.A
namespace Go.Proofs.Ytnhggokeblijpaa.A
open Go Go.Abs
set_option maxRecDepth 100000
abbrev iA (n : Int) : List AV := [.int .i64 n]
abbrev intsA (xs : List Int) : AV := .lst 1 (xs.map iA)
abbrev opsA (xs : List Op3) : AV := .lst 3 (xs.map opA)
abbrev progA (l : List Op3) : List AV := [opsA l]
abbrev progsA (ps : List (List Op3)) : AV := .lst 1 (ps.map progA)
theorem f35 (n : Nat) (xs ys : List Int) (hx : xs.length ≤ maxLen) : callP cfg (n+1) 35 [intsA xs, intsA ys] = some ⟨.bool (decide (xs = ys)), []⟩ := by
  unfold maxLen at hx
  rw [callP_succ]
  by_cases hl : xs.length = ys.length
  · have e0 : (((xs.map iA).length : Int) != ((ys.map iA).length : Int)) = false := by simp [hl]
    repeat' ((conv => lhs; whnf); first | (with_reducible refine evOps_cons.trans ?_) | (with_reducible refine evOps_nil.trans ?_) | (with_reducible refine ev_seq.trans ?_) | (with_reducible refine ev_region.trans ?_) | (with_reducible refine ev_cond.trans ?_) | (with_reducible refine ev_block.trans ?_) | (with_reducible refine ev_loop.trans ?_) | (with_reducible refine ev_exit.trans ?_) | (with_reducible refine ev_ret.trans ?_) | (with_reducible refine ev_skip.trans ?_) | (with_reducible refine ev_draw.trans ?_) | (with_reducible refine evList_cons.trans ?_) | (with_reducible refine evList_nil.trans ?_) | (with_reducible refine (br_true _ _).trans ?_) | (with_reducible refine (br_false _ _).trans ?_) | (with_reducible refine (br_pos (by assumption)).trans ?_) | (with_reducible refine (br_neg (by assumption)).trans ?_) | (with_reducible refine (navR_nil _ _ _).trans ?_) | (with_reducible refine (modR_nil _ _ _).trans ?_) | fail)
    
    refine (evLoop_run (fun e k => e.set 5 (.int .i64 (k : Int))) (fun h _ => h) (fun k => some ⟨.bool (decide (xs.drop k = ys.drop k)), []⟩) xs.length (by show _ < 18446744073709551616; omega) rfl ?_).trans (by simp)
    intro k f hk IH
    by_cases hlt : k < xs.length
    · have e1 := lt_map (f := iA) hlt
      have e2 := nonneg k
      have e3 := lt_map (f := iA) (xs := ys) (k := k) (by omega)
      have r1 := map_get (f := iA) hlt
      have r2 := map_get (l := ys) (f := iA) (i := k) (by omega)
      have hw := wrapS (k := k) (by omega)
      by_cases hv : xs.getD k default = ys.getD k default
      · have e4 := bne_f hv
        repeat' ((conv => lhs; whnf); first | (with_reducible refine evOps_cons.trans ?_) | (with_reducible refine evOps_nil.trans ?_) | (with_reducible refine ev_seq.trans ?_) | (with_reducible refine ev_region.trans ?_) | (with_reducible refine ev_cond.trans ?_) | (with_reducible refine ev_block.trans ?_) | (with_reducible refine ev_loop.trans ?_) | (with_reducible refine ev_exit.trans ?_) | (with_reducible refine ev_ret.trans ?_) | (with_reducible refine ev_skip.trans ?_) | (with_reducible refine ev_draw.trans ?_) | (with_reducible refine evList_cons.trans ?_) | (with_reducible refine evList_nil.trans ?_) | (with_reducible refine (br_true _ _).trans ?_) | (with_reducible refine (br_false _ _).trans ?_) | (with_reducible refine (br_pos (by assumption)).trans ?_) | (with_reducible refine (br_neg (by assumption)).trans ?_) | (refine (getRow_eq r1).trans ?_) | (with_reducible refine (navR_atT r1 (by with_unfolding_all rfl)).trans ?_) | (with_reducible refine (modR_atT r1 (by with_unfolding_all rfl)).trans ?_) | (refine (getRow_eq r2).trans ?_) | (with_reducible refine (navR_atT r2 (by with_unfolding_all rfl)).trans ?_) | (with_reducible refine (modR_atT r2 (by with_unfolding_all rfl)).trans ?_) | (with_reducible refine (navR_nil _ _ _).trans ?_) | (with_reducible refine (modR_nil _ _ _).trans ?_) | fail)
        conv => lhs; whnf
        refine (IH hlt _ _ (by rw [hw]; rfl) rfl).trans ?_
        rw [drop_cons hlt, drop_cons (l := ys) (by omega : k < ys.length), hv]
        simp
      · have e4 := bne_t hv
        repeat' ((conv => lhs; whnf); first | (with_reducible refine evOps_cons.trans ?_) | (with_reducible refine evOps_nil.trans ?_) | (with_reducible refine ev_seq.trans ?_) | (with_reducible refine ev_region.trans ?_) | (with_reducible refine ev_cond.trans ?_) | (with_reducible refine ev_block.trans ?_) | (with_reducible refine ev_loop.trans ?_) | (with_reducible refine ev_exit.trans ?_) | (with_reducible refine ev_ret.trans ?_) | (with_reducible refine ev_skip.trans ?_) | (with_reducible refine ev_draw.trans ?_) | (with_reducible refine evList_cons.trans ?_) | (with_reducible refine evList_nil.trans ?_) | (with_reducible refine (br_true _ _).trans ?_) | (with_reducible refine (br_false _ _).trans ?_) | (with_reducible refine (br_pos (by assumption)).trans ?_) | (with_reducible refine (br_neg (by assumption)).trans ?_) | (refine (getRow_eq r1).trans ?_) | (with_reducible refine (navR_atT r1 (by with_unfolding_all rfl)).trans ?_) | (with_reducible refine (modR_atT r1 (by with_unfolding_all rfl)).trans ?_) | (refine (getRow_eq r2).trans ?_) | (with_reducible refine (navR_atT r2 (by with_unfolding_all rfl)).trans ?_) | (with_reducible refine (modR_atT r2 (by with_unfolding_all rfl)).trans ?_) | (with_reducible refine (navR_nil _ _ _).trans ?_) | (with_reducible refine (modR_nil _ _ _).trans ?_) | fail)
        conv => lhs; whnf
        rw [drop_cons hlt, drop_cons (l := ys) (by omega : k < ys.length)]
        simp
        exact fun h => absurd h hv
    · have e1 := nlt_map (f := iA) (Nat.le_of_not_lt hlt)
      repeat' ((conv => lhs; whnf); first | (with_reducible refine evOps_cons.trans ?_) | (with_reducible refine evOps_nil.trans ?_) | (with_reducible refine ev_seq.trans ?_) | (with_reducible refine ev_region.trans ?_) | (with_reducible refine ev_cond.trans ?_) | (with_reducible refine ev_block.trans ?_) | (with_reducible refine ev_loop.trans ?_) | (with_reducible refine ev_exit.trans ?_) | (with_reducible refine ev_ret.trans ?_) | (with_reducible refine ev_skip.trans ?_) | (with_reducible refine ev_draw.trans ?_) | (with_reducible refine evList_cons.trans ?_) | (with_reducible refine evList_nil.trans ?_) | (with_reducible refine (br_true _ _).trans ?_) | (with_reducible refine (br_false _ _).trans ?_) | (with_reducible refine (br_pos (by assumption)).trans ?_) | (with_reducible refine (br_neg (by assumption)).trans ?_) | (with_reducible refine (navR_nil _ _ _).trans ?_) | (with_reducible refine (modR_nil _ _ _).trans ?_) | fail)
      conv => lhs; whnf
      rw [List.drop_eq_nil_of_le (by omega), List.drop_eq_nil_of_le (by omega)]
      simp
  · have e0 : (((xs.map iA).length : Int) != ((ys.map iA).length : Int)) = true := bne_t (by simp only [List.length_map]; omega)
    repeat' ((conv => lhs; whnf); first | (with_reducible refine evOps_cons.trans ?_) | (with_reducible refine evOps_nil.trans ?_) | (with_reducible refine ev_seq.trans ?_) | (with_reducible refine ev_region.trans ?_) | (with_reducible refine ev_cond.trans ?_) | (with_reducible refine ev_block.trans ?_) | (with_reducible refine ev_loop.trans ?_) | (with_reducible refine ev_exit.trans ?_) | (with_reducible refine ev_ret.trans ?_) | (with_reducible refine ev_skip.trans ?_) | (with_reducible refine ev_draw.trans ?_) | (with_reducible refine evList_cons.trans ?_) | (with_reducible refine evList_nil.trans ?_) | (with_reducible refine (br_true _ _).trans ?_) | (with_reducible refine (br_false _ _).trans ?_) | (with_reducible refine (br_pos (by assumption)).trans ?_) | (with_reducible refine (br_neg (by assumption)).trans ?_) | (with_reducible refine (navR_nil _ _ _).trans ?_) | (with_reducible refine (modR_nil _ _ _).trans ?_) | fail)
    conv => lhs; whnf
    have : ¬ xs = ys := fun e => hl (by rw [e])
    simp [this]
theorem f29 (n : Nat) (xs : List Int) (hx : xs.length * 8 ≤ 140737488355328) : callP cfg (n+1) 29 [intsA xs] = some ⟨intsA xs, []⟩ := by
  rw [callP_succ]
  have e0 : decide (((((xs.map iA).length : Int)).toNat * ty3.bytes ≤ roomB)) = true := decide_eq_true (by simp only [List.length_map, Int.toNat_natCast]; exact hx)
  have e1 : decide ((0 : Int) ≤ ((xs.map iA).length : Int)) = true := decide_eq_true (by omega)
  have e2 : decide (((xs.map iA).length : Int) ≤ ((xs.map iA).length : Int)) = true := decide_eq_true (by omega)
  repeat' ((conv => lhs; whnf); first | (with_reducible refine evOps_cons.trans ?_) | (with_reducible refine evOps_nil.trans ?_) | (with_reducible refine ev_seq.trans ?_) | (with_reducible refine ev_region.trans ?_) | (with_reducible refine ev_cond.trans ?_) | (with_reducible refine ev_block.trans ?_) | (with_reducible refine ev_loop.trans ?_) | (with_reducible refine ev_exit.trans ?_) | (with_reducible refine ev_ret.trans ?_) | (with_reducible refine ev_skip.trans ?_) | (with_reducible refine ev_draw.trans ?_) | (with_reducible refine evList_cons.trans ?_) | (with_reducible refine evList_nil.trans ?_) | (with_reducible refine (br_true _ _).trans ?_) | (with_reducible refine (br_false _ _).trans ?_) | (with_reducible refine (br_pos (by assumption)).trans ?_) | (with_reducible refine (br_neg (by assumption)).trans ?_) | (with_reducible refine (navR_nil _ _ _).trans ?_) | (with_reducible refine (modR_nil _ _ _).trans ?_) | fail)
  conv => lhs; whnf
  rw [fillR_zero (f := iA) (z := ty3.zero) (xs := xs) (by simp)]
  refine (evLoop_run (fun e k => e.set 4 (.int .i64 (k : Int))) (fun h k => h.set 2 (some ⟨false, false, false, 1, fillR iA ty3.zero xs k⟩)) (fun k => some ⟨intsA xs, []⟩) xs.length (by show _ < 18446744073709551616; omega) rfl ?_).trans rfl
  intro k f hk IH
  by_cases hlt : k < xs.length
  · have e1 := lt_map (f := iA) hlt
    have e2 := nonneg k
    have e3 : decide ((k : Int) < ((fillR iA ty3.zero xs k).length : Int)) = true := decide_eq_true (by rw [fillR_len hk]; omega)
    have hL : k < (fillR iA ty3.zero xs k).length := by rw [fillR_len hk]; exact hlt
    have r1 := map_get (f := iA) hlt
    have r2 := fillR_get (f := iA) (z := ty3.zero) hlt
    have hw := wrapS (k := k) (by omega)
    repeat' ((conv => lhs; whnf); first | (with_reducible refine evOps_cons.trans ?_) | (with_reducible refine evOps_nil.trans ?_) | (with_reducible refine ev_seq.trans ?_) | (with_reducible refine ev_region.trans ?_) | (with_reducible refine ev_cond.trans ?_) | (with_reducible refine ev_block.trans ?_) | (with_reducible refine ev_loop.trans ?_) | (with_reducible refine ev_exit.trans ?_) | (with_reducible refine ev_ret.trans ?_) | (with_reducible refine ev_skip.trans ?_) | (with_reducible refine ev_draw.trans ?_) | (with_reducible refine evList_cons.trans ?_) | (with_reducible refine evList_nil.trans ?_) | (with_reducible refine (br_true _ _).trans ?_) | (with_reducible refine (br_false _ _).trans ?_) | (with_reducible refine (br_pos (by assumption)).trans ?_) | (with_reducible refine (br_neg (by assumption)).trans ?_) | (refine (getRow_eq r1).trans ?_) | (with_reducible refine (navR_atT r1 (by with_unfolding_all rfl)).trans ?_) | (with_reducible refine (modR_atT r1 (by with_unfolding_all rfl)).trans ?_) | (refine (getRow_eq r2).trans ?_) | (with_reducible refine (navR_atT r2 (by with_unfolding_all rfl)).trans ?_) | (with_reducible refine (modR_atT r2 (by with_unfolding_all rfl)).trans ?_) | (refine (getRow_set hL).trans ?_) | (refine (setRC_set hL (Nat.le_of_ble_eq_true rfl)).trans ?_) | (refine (setRC_at r2 (Nat.le_of_ble_eq_true rfl)).trans ?_) | (with_reducible refine (navR_nil _ _ _).trans ?_) | (with_reducible refine (modR_nil _ _ _).trans ?_) | fail)
    conv => lhs; whnf
    refine IH hlt _ _ (by rw [hw]; rfl) (by rw [← fillR_set hlt]; rfl)
  · have e1 := nlt_map (f := iA) (Nat.le_of_not_lt hlt)
    obtain rfl : k = xs.length := by omega
    rw [fillR_end]
    repeat' ((conv => lhs; whnf); first | (with_reducible refine evOps_cons.trans ?_) | (with_reducible refine evOps_nil.trans ?_) | (with_reducible refine ev_seq.trans ?_) | (with_reducible refine ev_region.trans ?_) | (with_reducible refine ev_cond.trans ?_) | (with_reducible refine ev_block.trans ?_) | (with_reducible refine ev_loop.trans ?_) | (with_reducible refine ev_exit.trans ?_) | (with_reducible refine ev_ret.trans ?_) | (with_reducible refine ev_skip.trans ?_) | (with_reducible refine ev_draw.trans ?_) | (with_reducible refine evList_cons.trans ?_) | (with_reducible refine evList_nil.trans ?_) | (with_reducible refine (br_true _ _).trans ?_) | (with_reducible refine (br_false _ _).trans ?_) | (with_reducible refine (br_pos (by assumption)).trans ?_) | (with_reducible refine (br_neg (by assumption)).trans ?_) | (with_reducible refine (navR_nil _ _ _).trans ?_) | (with_reducible refine (modR_nil _ _ _).trans ?_) | fail)
    conv => lhs; whnf
theorem f49 (n : Nat) (xs ys : List Op3) (hx : xs.length ≤ maxLen) : callP cfg (n+2) 49 [opsA xs, opsA ys] = some ⟨.bool (decide (xs = ys)), []⟩ := by
  unfold maxLen at hx
  rw [callP_succ]
  by_cases hl : xs.length = ys.length
  · have e0 : (((xs.map opA).length : Int) != ((ys.map opA).length : Int)) = false := by simp [hl]
    repeat' ((conv => lhs; whnf); first | (with_reducible refine evOps_cons.trans ?_) | (with_reducible refine evOps_nil.trans ?_) | (with_reducible refine ev_seq.trans ?_) | (with_reducible refine ev_region.trans ?_) | (with_reducible refine ev_cond.trans ?_) | (with_reducible refine ev_block.trans ?_) | (with_reducible refine ev_loop.trans ?_) | (with_reducible refine ev_exit.trans ?_) | (with_reducible refine ev_ret.trans ?_) | (with_reducible refine ev_skip.trans ?_) | (with_reducible refine ev_draw.trans ?_) | (with_reducible refine evList_cons.trans ?_) | (with_reducible refine evList_nil.trans ?_) | (with_reducible refine (br_true _ _).trans ?_) | (with_reducible refine (br_false _ _).trans ?_) | (with_reducible refine (br_pos (by assumption)).trans ?_) | (with_reducible refine (br_neg (by assumption)).trans ?_) | (with_reducible refine (navR_nil _ _ _).trans ?_) | (with_reducible refine (modR_nil _ _ _).trans ?_) | fail)
    
    refine (evLoop_run (fun e k => e.set 5 (.int .i64 (k : Int))) (fun h _ => h) (fun k => some ⟨.bool (decide (xs.drop k = ys.drop k)), []⟩) xs.length (by show _ < 18446744073709551616; omega) rfl ?_).trans (by simp)
    intro k f hk IH
    by_cases hlt : k < xs.length
    · have e1 := lt_map (f := opA) hlt
      have e2 := nonneg k
      have e3 := lt_map (f := opA) (xs := ys) (k := k) (by omega)
      have r1 := map_get (f := opA) hlt
      have r2 := map_get (l := ys) (f := opA) (i := k) (by omega)
      have hw := wrapS (k := k) (by omega)
      by_cases hv : xs.getD k default = ys.getD k default
      · have e4 : (!decide (xs.getD k default = ys.getD k default)) = false := by rw [hv]; simp
        repeat' ((conv => lhs; whnf); first | (with_reducible refine evOps_cons.trans ?_) | (with_reducible refine evOps_nil.trans ?_) | (with_reducible refine ev_seq.trans ?_) | (with_reducible refine ev_region.trans ?_) | (with_reducible refine ev_cond.trans ?_) | (with_reducible refine ev_block.trans ?_) | (with_reducible refine ev_loop.trans ?_) | (with_reducible refine ev_exit.trans ?_) | (with_reducible refine ev_ret.trans ?_) | (with_reducible refine ev_skip.trans ?_) | (with_reducible refine ev_draw.trans ?_) | (with_reducible refine evList_cons.trans ?_) | (with_reducible refine evList_nil.trans ?_) | (with_reducible refine (br_true _ _).trans ?_) | (with_reducible refine (br_false _ _).trans ?_) | (with_reducible refine (br_pos (by assumption)).trans ?_) | (with_reducible refine (br_neg (by assumption)).trans ?_) | (refine (getRow_eq r1).trans ?_) | (with_reducible refine (navR_atT r1 (by with_unfolding_all rfl)).trans ?_) | (with_reducible refine (modR_atT r1 (by with_unfolding_all rfl)).trans ?_) | (refine (getRow_eq r2).trans ?_) | (with_reducible refine (navR_atT r2 (by with_unfolding_all rfl)).trans ?_) | (with_reducible refine (modR_atT r2 (by with_unfolding_all rfl)).trans ?_) | (with_reducible refine (bnd_call (f56 _ _ _)).trans ?_) | (with_reducible refine (navR_nil _ _ _).trans ?_) | (with_reducible refine (modR_nil _ _ _).trans ?_) | fail)
        conv => lhs; whnf
        refine (IH hlt _ _ (by rw [hw]; rfl) rfl).trans ?_
        rw [drop_cons hlt, drop_cons (l := ys) (by omega : k < ys.length), hv]
        simp
      · have e4 : (!decide (xs.getD k default = ys.getD k default)) = true := by simpa using hv
        repeat' ((conv => lhs; whnf); first | (with_reducible refine evOps_cons.trans ?_) | (with_reducible refine evOps_nil.trans ?_) | (with_reducible refine ev_seq.trans ?_) | (with_reducible refine ev_region.trans ?_) | (with_reducible refine ev_cond.trans ?_) | (with_reducible refine ev_block.trans ?_) | (with_reducible refine ev_loop.trans ?_) | (with_reducible refine ev_exit.trans ?_) | (with_reducible refine ev_ret.trans ?_) | (with_reducible refine ev_skip.trans ?_) | (with_reducible refine ev_draw.trans ?_) | (with_reducible refine evList_cons.trans ?_) | (with_reducible refine evList_nil.trans ?_) | (with_reducible refine (br_true _ _).trans ?_) | (with_reducible refine (br_false _ _).trans ?_) | (with_reducible refine (br_pos (by assumption)).trans ?_) | (with_reducible refine (br_neg (by assumption)).trans ?_) | (refine (getRow_eq r1).trans ?_) | (with_reducible refine (navR_atT r1 (by with_unfolding_all rfl)).trans ?_) | (with_reducible refine (modR_atT r1 (by with_unfolding_all rfl)).trans ?_) | (refine (getRow_eq r2).trans ?_) | (with_reducible refine (navR_atT r2 (by with_unfolding_all rfl)).trans ?_) | (with_reducible refine (modR_atT r2 (by with_unfolding_all rfl)).trans ?_) | (with_reducible refine (bnd_call (f56 _ _ _)).trans ?_) | (with_reducible refine (navR_nil _ _ _).trans ?_) | (with_reducible refine (modR_nil _ _ _).trans ?_) | fail)
        conv => lhs; whnf
        rw [drop_cons hlt, drop_cons (l := ys) (by omega : k < ys.length)]
        simp
        exact fun h => absurd h hv
    · have e1 := nlt_map (f := opA) (Nat.le_of_not_lt hlt)
      repeat' ((conv => lhs; whnf); first | (with_reducible refine evOps_cons.trans ?_) | (with_reducible refine evOps_nil.trans ?_) | (with_reducible refine ev_seq.trans ?_) | (with_reducible refine ev_region.trans ?_) | (with_reducible refine ev_cond.trans ?_) | (with_reducible refine ev_block.trans ?_) | (with_reducible refine ev_loop.trans ?_) | (with_reducible refine ev_exit.trans ?_) | (with_reducible refine ev_ret.trans ?_) | (with_reducible refine ev_skip.trans ?_) | (with_reducible refine ev_draw.trans ?_) | (with_reducible refine evList_cons.trans ?_) | (with_reducible refine evList_nil.trans ?_) | (with_reducible refine (br_true _ _).trans ?_) | (with_reducible refine (br_false _ _).trans ?_) | (with_reducible refine (br_pos (by assumption)).trans ?_) | (with_reducible refine (br_neg (by assumption)).trans ?_) | (with_reducible refine (navR_nil _ _ _).trans ?_) | (with_reducible refine (modR_nil _ _ _).trans ?_) | fail)
      conv => lhs; whnf
      rw [List.drop_eq_nil_of_le (by omega), List.drop_eq_nil_of_le (by omega)]
      simp
  · have e0 : (((xs.map opA).length : Int) != ((ys.map opA).length : Int)) = true := bne_t (by simp only [List.length_map]; omega)
    repeat' ((conv => lhs; whnf); first | (with_reducible refine evOps_cons.trans ?_) | (with_reducible refine evOps_nil.trans ?_) | (with_reducible refine ev_seq.trans ?_) | (with_reducible refine ev_region.trans ?_) | (with_reducible refine ev_cond.trans ?_) | (with_reducible refine ev_block.trans ?_) | (with_reducible refine ev_loop.trans ?_) | (with_reducible refine ev_exit.trans ?_) | (with_reducible refine ev_ret.trans ?_) | (with_reducible refine ev_skip.trans ?_) | (with_reducible refine ev_draw.trans ?_) | (with_reducible refine evList_cons.trans ?_) | (with_reducible refine evList_nil.trans ?_) | (with_reducible refine (br_true _ _).trans ?_) | (with_reducible refine (br_false _ _).trans ?_) | (with_reducible refine (br_pos (by assumption)).trans ?_) | (with_reducible refine (br_neg (by assumption)).trans ?_) | (with_reducible refine (navR_nil _ _ _).trans ?_) | (with_reducible refine (modR_nil _ _ _).trans ?_) | fail)
    conv => lhs; whnf
    have : ¬ xs = ys := fun e => hl (by rw [e])
    simp [this]
theorem f34 (n : Nat) (xs ys : List (List Op3)) (hx : xs.length ≤ maxLen) (hxs : ∀ l ∈ xs, l.length ≤ maxLen) : callP cfg (n+3) 34 [progsA xs, progsA ys] = some ⟨.bool (decide (xs = ys)), []⟩ := by
  unfold maxLen at hx
  rw [callP_succ]
  by_cases hl : xs.length = ys.length
  · have e0 : (((xs.map progA).length : Int) != ((ys.map progA).length : Int)) = false := by simp [hl]
    repeat' ((conv => lhs; whnf); first | (with_reducible refine evOps_cons.trans ?_) | (with_reducible refine evOps_nil.trans ?_) | (with_reducible refine ev_seq.trans ?_) | (with_reducible refine ev_region.trans ?_) | (with_reducible refine ev_cond.trans ?_) | (with_reducible refine ev_block.trans ?_) | (with_reducible refine ev_loop.trans ?_) | (with_reducible refine ev_exit.trans ?_) | (with_reducible refine ev_ret.trans ?_) | (with_reducible refine ev_skip.trans ?_) | (with_reducible refine ev_draw.trans ?_) | (with_reducible refine evList_cons.trans ?_) | (with_reducible refine evList_nil.trans ?_) | (with_reducible refine (br_true _ _).trans ?_) | (with_reducible refine (br_false _ _).trans ?_) | (with_reducible refine (br_pos (by assumption)).trans ?_) | (with_reducible refine (br_neg (by assumption)).trans ?_) | (with_reducible refine (navR_nil _ _ _).trans ?_) | (with_reducible refine (modR_nil _ _ _).trans ?_) | fail)
    
    refine (evLoop_run (fun e k => e.set 5 (.int .i64 (k : Int))) (fun h _ => h) (fun k => some ⟨.bool (decide (xs.drop k = ys.drop k)), []⟩) xs.length (by show _ < 18446744073709551616; omega) rfl ?_).trans (by simp)
    intro k f hk IH
    by_cases hlt : k < xs.length
    · have e1 := lt_map (f := progA) hlt
      have e2 := nonneg k
      have e3 := lt_map (f := progA) (xs := ys) (k := k) (by omega)
      have r1 := map_get (f := progA) hlt
      have r2 := map_get (l := ys) (f := progA) (i := k) (by omega)
      have hw := wrapS (k := k) (by omega)
      have hm := hxs _ (getD_mem hlt)
      by_cases hv : xs.getD k default = ys.getD k default
      · have e4 : (!decide (xs.getD k default = ys.getD k default)) = false := by rw [hv]; simp
        repeat' ((conv => lhs; whnf); first | (with_reducible refine evOps_cons.trans ?_) | (with_reducible refine evOps_nil.trans ?_) | (with_reducible refine ev_seq.trans ?_) | (with_reducible refine ev_region.trans ?_) | (with_reducible refine ev_cond.trans ?_) | (with_reducible refine ev_block.trans ?_) | (with_reducible refine ev_loop.trans ?_) | (with_reducible refine ev_exit.trans ?_) | (with_reducible refine ev_ret.trans ?_) | (with_reducible refine ev_skip.trans ?_) | (with_reducible refine ev_draw.trans ?_) | (with_reducible refine evList_cons.trans ?_) | (with_reducible refine evList_nil.trans ?_) | (with_reducible refine (br_true _ _).trans ?_) | (with_reducible refine (br_false _ _).trans ?_) | (with_reducible refine (br_pos (by assumption)).trans ?_) | (with_reducible refine (br_neg (by assumption)).trans ?_) | (refine (getRow_eq r1).trans ?_) | (with_reducible refine (navR_atT r1 (by with_unfolding_all rfl)).trans ?_) | (with_reducible refine (modR_atT r1 (by with_unfolding_all rfl)).trans ?_) | (refine (getRow_eq r2).trans ?_) | (with_reducible refine (navR_atT r2 (by with_unfolding_all rfl)).trans ?_) | (with_reducible refine (modR_atT r2 (by with_unfolding_all rfl)).trans ?_) | (with_reducible refine (bnd_call (f49 _ _ _ hm)).trans ?_) | (with_reducible refine (navR_nil _ _ _).trans ?_) | (with_reducible refine (modR_nil _ _ _).trans ?_) | fail)
        conv => lhs; whnf
        refine (IH hlt _ _ (by rw [hw]; rfl) rfl).trans ?_
        rw [drop_cons hlt, drop_cons (l := ys) (by omega : k < ys.length), hv]
        simp
      · have e4 : (!decide (xs.getD k default = ys.getD k default)) = true := by simpa using hv
        repeat' ((conv => lhs; whnf); first | (with_reducible refine evOps_cons.trans ?_) | (with_reducible refine evOps_nil.trans ?_) | (with_reducible refine ev_seq.trans ?_) | (with_reducible refine ev_region.trans ?_) | (with_reducible refine ev_cond.trans ?_) | (with_reducible refine ev_block.trans ?_) | (with_reducible refine ev_loop.trans ?_) | (with_reducible refine ev_exit.trans ?_) | (with_reducible refine ev_ret.trans ?_) | (with_reducible refine ev_skip.trans ?_) | (with_reducible refine ev_draw.trans ?_) | (with_reducible refine evList_cons.trans ?_) | (with_reducible refine evList_nil.trans ?_) | (with_reducible refine (br_true _ _).trans ?_) | (with_reducible refine (br_false _ _).trans ?_) | (with_reducible refine (br_pos (by assumption)).trans ?_) | (with_reducible refine (br_neg (by assumption)).trans ?_) | (refine (getRow_eq r1).trans ?_) | (with_reducible refine (navR_atT r1 (by with_unfolding_all rfl)).trans ?_) | (with_reducible refine (modR_atT r1 (by with_unfolding_all rfl)).trans ?_) | (refine (getRow_eq r2).trans ?_) | (with_reducible refine (navR_atT r2 (by with_unfolding_all rfl)).trans ?_) | (with_reducible refine (modR_atT r2 (by with_unfolding_all rfl)).trans ?_) | (with_reducible refine (bnd_call (f49 _ _ _ hm)).trans ?_) | (with_reducible refine (navR_nil _ _ _).trans ?_) | (with_reducible refine (modR_nil _ _ _).trans ?_) | fail)
        conv => lhs; whnf
        rw [drop_cons hlt, drop_cons (l := ys) (by omega : k < ys.length)]
        simp
        exact fun h => absurd h hv
    · have e1 := nlt_map (f := progA) (Nat.le_of_not_lt hlt)
      repeat' ((conv => lhs; whnf); first | (with_reducible refine evOps_cons.trans ?_) | (with_reducible refine evOps_nil.trans ?_) | (with_reducible refine ev_seq.trans ?_) | (with_reducible refine ev_region.trans ?_) | (with_reducible refine ev_cond.trans ?_) | (with_reducible refine ev_block.trans ?_) | (with_reducible refine ev_loop.trans ?_) | (with_reducible refine ev_exit.trans ?_) | (with_reducible refine ev_ret.trans ?_) | (with_reducible refine ev_skip.trans ?_) | (with_reducible refine ev_draw.trans ?_) | (with_reducible refine evList_cons.trans ?_) | (with_reducible refine evList_nil.trans ?_) | (with_reducible refine (br_true _ _).trans ?_) | (with_reducible refine (br_false _ _).trans ?_) | (with_reducible refine (br_pos (by assumption)).trans ?_) | (with_reducible refine (br_neg (by assumption)).trans ?_) | (with_reducible refine (navR_nil _ _ _).trans ?_) | (with_reducible refine (modR_nil _ _ _).trans ?_) | fail)
      conv => lhs; whnf
      rw [List.drop_eq_nil_of_le (by omega), List.drop_eq_nil_of_le (by omega)]
      simp
  · have e0 : (((xs.map progA).length : Int) != ((ys.map progA).length : Int)) = true := bne_t (by simp only [List.length_map]; omega)
    repeat' ((conv => lhs; whnf); first | (with_reducible refine evOps_cons.trans ?_) | (with_reducible refine evOps_nil.trans ?_) | (with_reducible refine ev_seq.trans ?_) | (with_reducible refine ev_region.trans ?_) | (with_reducible refine ev_cond.trans ?_) | (with_reducible refine ev_block.trans ?_) | (with_reducible refine ev_loop.trans ?_) | (with_reducible refine ev_exit.trans ?_) | (with_reducible refine ev_ret.trans ?_) | (with_reducible refine ev_skip.trans ?_) | (with_reducible refine ev_draw.trans ?_) | (with_reducible refine evList_cons.trans ?_) | (with_reducible refine evList_nil.trans ?_) | (with_reducible refine (br_true _ _).trans ?_) | (with_reducible refine (br_false _ _).trans ?_) | (with_reducible refine (br_pos (by assumption)).trans ?_) | (with_reducible refine (br_neg (by assumption)).trans ?_) | (with_reducible refine (navR_nil _ _ _).trans ?_) | (with_reducible refine (modR_nil _ _ _).trans ?_) | fail)
    conv => lhs; whnf
    have : ¬ xs = ys := fun e => hl (by rw [e])
    simp [this]
theorem f44 (n : Nat) (xs : List Op3) (hx : xs.length * 24 ≤ 140737488355328) : callP cfg (n+2) 44 [opsA xs] = some ⟨opsA xs, []⟩ := by
  rw [callP_succ]
  have e0 : decide (((((xs.map opA).length : Int)).toNat * ty65.bytes ≤ roomB)) = true := decide_eq_true (by simp only [List.length_map, Int.toNat_natCast]; exact hx)
  have e1 : decide ((0 : Int) ≤ ((xs.map opA).length : Int)) = true := decide_eq_true (by omega)
  have e2 : decide (((xs.map opA).length : Int) ≤ ((xs.map opA).length : Int)) = true := decide_eq_true (by omega)
  repeat' ((conv => lhs; whnf); first | (with_reducible refine evOps_cons.trans ?_) | (with_reducible refine evOps_nil.trans ?_) | (with_reducible refine ev_seq.trans ?_) | (with_reducible refine ev_region.trans ?_) | (with_reducible refine ev_cond.trans ?_) | (with_reducible refine ev_block.trans ?_) | (with_reducible refine ev_loop.trans ?_) | (with_reducible refine ev_exit.trans ?_) | (with_reducible refine ev_ret.trans ?_) | (with_reducible refine ev_skip.trans ?_) | (with_reducible refine ev_draw.trans ?_) | (with_reducible refine evList_cons.trans ?_) | (with_reducible refine evList_nil.trans ?_) | (with_reducible refine (br_true _ _).trans ?_) | (with_reducible refine (br_false _ _).trans ?_) | (with_reducible refine (br_pos (by assumption)).trans ?_) | (with_reducible refine (br_neg (by assumption)).trans ?_) | (with_reducible refine (navR_nil _ _ _).trans ?_) | (with_reducible refine (modR_nil _ _ _).trans ?_) | fail)
  conv => lhs; whnf
  rw [fillR_zero (f := opA) (z := ty65.zero) (xs := xs) (by simp)]
  refine (evLoop_run (fun e k => e.set 4 (.int .i64 (k : Int))) (fun h k => h.set 2 (some ⟨false, false, false, 3, fillR opA ty65.zero xs k⟩)) (fun k => some ⟨opsA xs, []⟩) xs.length (by show _ < 18446744073709551616; omega) rfl ?_).trans rfl
  intro k f hk IH
  by_cases hlt : k < xs.length
  · have e1 := lt_map (f := opA) hlt
    have e2 := nonneg k
    have e3 : decide ((k : Int) < ((fillR opA ty65.zero xs k).length : Int)) = true := decide_eq_true (by rw [fillR_len hk]; omega)
    have hL : k < (fillR opA ty65.zero xs k).length := by rw [fillR_len hk]; exact hlt
    have r1 := map_get (f := opA) hlt
    have r2 := fillR_get (f := opA) (z := ty65.zero) hlt
    have hw := wrapS (k := k) (by omega)
    repeat' ((conv => lhs; whnf); first | (with_reducible refine evOps_cons.trans ?_) | (with_reducible refine evOps_nil.trans ?_) | (with_reducible refine ev_seq.trans ?_) | (with_reducible refine ev_region.trans ?_) | (with_reducible refine ev_cond.trans ?_) | (with_reducible refine ev_block.trans ?_) | (with_reducible refine ev_loop.trans ?_) | (with_reducible refine ev_exit.trans ?_) | (with_reducible refine ev_ret.trans ?_) | (with_reducible refine ev_skip.trans ?_) | (with_reducible refine ev_draw.trans ?_) | (with_reducible refine evList_cons.trans ?_) | (with_reducible refine evList_nil.trans ?_) | (with_reducible refine (br_true _ _).trans ?_) | (with_reducible refine (br_false _ _).trans ?_) | (with_reducible refine (br_pos (by assumption)).trans ?_) | (with_reducible refine (br_neg (by assumption)).trans ?_) | (refine (getRow_eq r1).trans ?_) | (with_reducible refine (navR_atT r1 (by with_unfolding_all rfl)).trans ?_) | (with_reducible refine (modR_atT r1 (by with_unfolding_all rfl)).trans ?_) | (refine (getRow_eq r2).trans ?_) | (with_reducible refine (navR_atT r2 (by with_unfolding_all rfl)).trans ?_) | (with_reducible refine (modR_atT r2 (by with_unfolding_all rfl)).trans ?_) | (refine (getRow_set hL).trans ?_) | (refine (setRC_set hL (Nat.le_of_ble_eq_true rfl)).trans ?_) | (refine (setRC_at r2 (Nat.le_of_ble_eq_true rfl)).trans ?_) | (with_reducible refine (bnd_call (f53 _ _)).trans ?_) | (with_reducible refine (navR_nil _ _ _).trans ?_) | (with_reducible refine (modR_nil _ _ _).trans ?_) | fail)
    conv => lhs; whnf
    refine IH hlt _ _ (by rw [hw]; rfl) (by rw [← fillR_set hlt]; rfl)
  · have e1 := nlt_map (f := opA) (Nat.le_of_not_lt hlt)
    obtain rfl : k = xs.length := by omega
    rw [fillR_end]
    repeat' ((conv => lhs; whnf); first | (with_reducible refine evOps_cons.trans ?_) | (with_reducible refine evOps_nil.trans ?_) | (with_reducible refine ev_seq.trans ?_) | (with_reducible refine ev_region.trans ?_) | (with_reducible refine ev_cond.trans ?_) | (with_reducible refine ev_block.trans ?_) | (with_reducible refine ev_loop.trans ?_) | (with_reducible refine ev_exit.trans ?_) | (with_reducible refine ev_ret.trans ?_) | (with_reducible refine ev_skip.trans ?_) | (with_reducible refine ev_draw.trans ?_) | (with_reducible refine evList_cons.trans ?_) | (with_reducible refine evList_nil.trans ?_) | (with_reducible refine (br_true _ _).trans ?_) | (with_reducible refine (br_false _ _).trans ?_) | (with_reducible refine (br_pos (by assumption)).trans ?_) | (with_reducible refine (br_neg (by assumption)).trans ?_) | (with_reducible refine (navR_nil _ _ _).trans ?_) | (with_reducible refine (modR_nil _ _ _).trans ?_) | fail)
    conv => lhs; whnf
theorem f28 (n : Nat) (xs : List (List Op3)) (hx : xs.length * 24 ≤ 140737488355328) (hxs : ∀ l ∈ xs, l.length * 24 ≤ 140737488355328) : callP cfg (n+3) 28 [progsA xs] = some ⟨progsA xs, []⟩ := by
  rw [callP_succ]
  have e0 : decide (((((xs.map progA).length : Int)).toNat * ty51.bytes ≤ roomB)) = true := decide_eq_true (by simp only [List.length_map, Int.toNat_natCast]; exact hx)
  have e1 : decide ((0 : Int) ≤ ((xs.map progA).length : Int)) = true := decide_eq_true (by omega)
  have e2 : decide (((xs.map progA).length : Int) ≤ ((xs.map progA).length : Int)) = true := decide_eq_true (by omega)
  repeat' ((conv => lhs; whnf); first | (with_reducible refine evOps_cons.trans ?_) | (with_reducible refine evOps_nil.trans ?_) | (with_reducible refine ev_seq.trans ?_) | (with_reducible refine ev_region.trans ?_) | (with_reducible refine ev_cond.trans ?_) | (with_reducible refine ev_block.trans ?_) | (with_reducible refine ev_loop.trans ?_) | (with_reducible refine ev_exit.trans ?_) | (with_reducible refine ev_ret.trans ?_) | (with_reducible refine ev_skip.trans ?_) | (with_reducible refine ev_draw.trans ?_) | (with_reducible refine evList_cons.trans ?_) | (with_reducible refine evList_nil.trans ?_) | (with_reducible refine (br_true _ _).trans ?_) | (with_reducible refine (br_false _ _).trans ?_) | (with_reducible refine (br_pos (by assumption)).trans ?_) | (with_reducible refine (br_neg (by assumption)).trans ?_) | (with_reducible refine (navR_nil _ _ _).trans ?_) | (with_reducible refine (modR_nil _ _ _).trans ?_) | fail)
  conv => lhs; whnf
  rw [fillR_zero (f := progA) (z := ty51.zero) (xs := xs) (by simp)]
  refine (evLoop_run (fun e k => e.set 4 (.int .i64 (k : Int))) (fun h k => h.set 2 (some ⟨false, false, false, 1, fillR progA ty51.zero xs k⟩)) (fun k => some ⟨progsA xs, []⟩) xs.length (by show _ < 18446744073709551616; omega) rfl ?_).trans rfl
  intro k f hk IH
  by_cases hlt : k < xs.length
  · have e1 := lt_map (f := progA) hlt
    have e2 := nonneg k
    have e3 : decide ((k : Int) < ((fillR progA ty51.zero xs k).length : Int)) = true := decide_eq_true (by rw [fillR_len hk]; omega)
    have hL : k < (fillR progA ty51.zero xs k).length := by rw [fillR_len hk]; exact hlt
    have r1 := map_get (f := progA) hlt
    have r2 := fillR_get (f := progA) (z := ty51.zero) hlt
    have hw := wrapS (k := k) (by omega)
    have hm := hxs _ (getD_mem hlt)
    repeat' ((conv => lhs; whnf); first | (with_reducible refine evOps_cons.trans ?_) | (with_reducible refine evOps_nil.trans ?_) | (with_reducible refine ev_seq.trans ?_) | (with_reducible refine ev_region.trans ?_) | (with_reducible refine ev_cond.trans ?_) | (with_reducible refine ev_block.trans ?_) | (with_reducible refine ev_loop.trans ?_) | (with_reducible refine ev_exit.trans ?_) | (with_reducible refine ev_ret.trans ?_) | (with_reducible refine ev_skip.trans ?_) | (with_reducible refine ev_draw.trans ?_) | (with_reducible refine evList_cons.trans ?_) | (with_reducible refine evList_nil.trans ?_) | (with_reducible refine (br_true _ _).trans ?_) | (with_reducible refine (br_false _ _).trans ?_) | (with_reducible refine (br_pos (by assumption)).trans ?_) | (with_reducible refine (br_neg (by assumption)).trans ?_) | (refine (getRow_eq r1).trans ?_) | (with_reducible refine (navR_atT r1 (by with_unfolding_all rfl)).trans ?_) | (with_reducible refine (modR_atT r1 (by with_unfolding_all rfl)).trans ?_) | (refine (getRow_eq r2).trans ?_) | (with_reducible refine (navR_atT r2 (by with_unfolding_all rfl)).trans ?_) | (with_reducible refine (modR_atT r2 (by with_unfolding_all rfl)).trans ?_) | (refine (getRow_set hL).trans ?_) | (refine (setRC_set hL (Nat.le_of_ble_eq_true rfl)).trans ?_) | (refine (setRC_at r2 (Nat.le_of_ble_eq_true rfl)).trans ?_) | (with_reducible refine (bnd_call (f44 _ _ hm)).trans ?_) | (with_reducible refine (navR_nil _ _ _).trans ?_) | (with_reducible refine (modR_nil _ _ _).trans ?_) | fail)
    conv => lhs; whnf
    refine IH hlt _ _ (by rw [hw]; rfl) (by rw [← fillR_set hlt]; rfl)
  · have e1 := nlt_map (f := progA) (Nat.le_of_not_lt hlt)
    obtain rfl : k = xs.length := by omega
    rw [fillR_end]
    repeat' ((conv => lhs; whnf); first | (with_reducible refine evOps_cons.trans ?_) | (with_reducible refine evOps_nil.trans ?_) | (with_reducible refine ev_seq.trans ?_) | (with_reducible refine ev_region.trans ?_) | (with_reducible refine ev_cond.trans ?_) | (with_reducible refine ev_block.trans ?_) | (with_reducible refine ev_loop.trans ?_) | (with_reducible refine ev_exit.trans ?_) | (with_reducible refine ev_ret.trans ?_) | (with_reducible refine ev_skip.trans ?_) | (with_reducible refine ev_draw.trans ?_) | (with_reducible refine evList_cons.trans ?_) | (with_reducible refine evList_nil.trans ?_) | (with_reducible refine (br_true _ _).trans ?_) | (with_reducible refine (br_false _ _).trans ?_) | (with_reducible refine (br_pos (by assumption)).trans ?_) | (with_reducible refine (br_neg (by assumption)).trans ?_) | (with_reducible refine (navR_nil _ _ _).trans ?_) | (with_reducible refine (modR_nil _ _ _).trans ?_) | fail)
    conv => lhs; whnf
end Go.Proofs.Ytnhggokeblijpaa.A
namespace Go.Proofs.Ytnhggokeblijpaa.A
open Go Go.Abs
set_option maxRecDepth 100000
def sz1 (b : Int) (n : Nat) : Int := if b - n < 0 then -1 else b - n
def szL (b : Int) : List (List Op3) → Int
  | [] => b
  | l :: ps => if sz1 b l.length < 0 then -1 else szL (sz1 b l.length) ps
def szP (b : Int) (ps : List (List Op3)) : Int := if b - ps.length < 0 then -1 else szL (b - ps.length) ps
def idxF {α : Type} (p : α → Bool) (k : Nat) : List α → Int
  | [] => -1
  | x :: l => if p x = true then k else idxF p (k + 1) l
theorem idxF_any {α : Type} (p : α → Bool) : ∀ (l : List α) (k : Nat), decide (0 ≤ idxF p k l) = l.any p
  | [], k => by simp [idxF]
  | x :: l, k => by
    unfold idxF
    cases h : p x with
    | true => simp [h]
    | false => simp [h, idxF_any p l (k + 1)]
def isProgB (l : List Op3) : Bool := l.all isOpB && decide (l.length ≤ 20)
theorem f26 (n : Nat) (xs : List Int) (b : Int) (hx : xs.length ≤ maxLen) (h0 : 0 ≤ b) (h1 : b ≤ 1048576) : callP cfg (n+1) 26 [intsA xs, .int .i64 b] = some ⟨.int .i64 (sz1 b xs.length), []⟩ := by
  unfold maxLen at hx
  rw [callP_succ]
  have hw : IntKind.i64.wrap (b - ((xs.map iA).length : Int)) = b - xs.length := by
    rw [List.length_map]; exact wrapI (by omega) (by omega)
  unfold sz1
  by_cases hb : b - (xs.length : Int) < 0
  · rw [if_pos hb]
    have e0 : decide (IntKind.i64.wrap (b - ((xs.map iA).length : Int)) < 0) = true := by rw [hw]; simpa using hb
    repeat' ((conv => lhs; whnf); first | (with_reducible refine evOps_cons.trans ?_) | (with_reducible refine evOps_nil.trans ?_) | (with_reducible refine ev_seq.trans ?_) | (with_reducible refine ev_region.trans ?_) | (with_reducible refine ev_cond.trans ?_) | (with_reducible refine ev_block.trans ?_) | (with_reducible refine ev_loop.trans ?_) | (with_reducible refine ev_exit.trans ?_) | (with_reducible refine ev_ret.trans ?_) | (with_reducible refine ev_skip.trans ?_) | (with_reducible refine ev_draw.trans ?_) | (with_reducible refine evList_cons.trans ?_) | (with_reducible refine evList_nil.trans ?_) | (with_reducible refine (br_true _ _).trans ?_) | (with_reducible refine (br_false _ _).trans ?_) | (with_reducible refine (br_pos (by assumption)).trans ?_) | (with_reducible refine (br_neg (by assumption)).trans ?_) | (with_reducible refine (navR_nil _ _ _).trans ?_) | (with_reducible refine (modR_nil _ _ _).trans ?_) | fail)
    conv => lhs; whnf
  · rw [if_neg hb]
    have e0 : decide (IntKind.i64.wrap (b - ((xs.map iA).length : Int)) < 0) = false := by rw [hw]; simpa using hb
    repeat' ((conv => lhs; whnf); first | (with_reducible refine evOps_cons.trans ?_) | (with_reducible refine evOps_nil.trans ?_) | (with_reducible refine ev_seq.trans ?_) | (with_reducible refine ev_region.trans ?_) | (with_reducible refine ev_cond.trans ?_) | (with_reducible refine ev_block.trans ?_) | (with_reducible refine ev_loop.trans ?_) | (with_reducible refine ev_exit.trans ?_) | (with_reducible refine ev_ret.trans ?_) | (with_reducible refine ev_skip.trans ?_) | (with_reducible refine ev_draw.trans ?_) | (with_reducible refine evList_cons.trans ?_) | (with_reducible refine evList_nil.trans ?_) | (with_reducible refine (br_true _ _).trans ?_) | (with_reducible refine (br_false _ _).trans ?_) | (with_reducible refine (br_pos (by assumption)).trans ?_) | (with_reducible refine (br_neg (by assumption)).trans ?_) | (with_reducible refine (navR_nil _ _ _).trans ?_) | (with_reducible refine (modR_nil _ _ _).trans ?_) | fail)
    conv => lhs; whnf
    rw [hw]
theorem f42 (n : Nat) (xs : List Op3) (b : Int) (hx : xs.length ≤ maxLen) (h0 : 0 ≤ b) (h1 : b ≤ 1048576) : callP cfg (n+1) 42 [opsA xs, .int .i64 b] = some ⟨.int .i64 (sz1 b xs.length), []⟩ := by
  unfold maxLen at hx
  rw [callP_succ]
  have hw : IntKind.i64.wrap (b - ((xs.map opA).length : Int)) = b - xs.length := by
    rw [List.length_map]; exact wrapI (by omega) (by omega)
  unfold sz1
  by_cases hb : b - (xs.length : Int) < 0
  · rw [if_pos hb]
    have e0 : decide (IntKind.i64.wrap (b - ((xs.map opA).length : Int)) < 0) = true := by rw [hw]; simpa using hb
    repeat' ((conv => lhs; whnf); first | (with_reducible refine evOps_cons.trans ?_) | (with_reducible refine evOps_nil.trans ?_) | (with_reducible refine ev_seq.trans ?_) | (with_reducible refine ev_region.trans ?_) | (with_reducible refine ev_cond.trans ?_) | (with_reducible refine ev_block.trans ?_) | (with_reducible refine ev_loop.trans ?_) | (with_reducible refine ev_exit.trans ?_) | (with_reducible refine ev_ret.trans ?_) | (with_reducible refine ev_skip.trans ?_) | (with_reducible refine ev_draw.trans ?_) | (with_reducible refine evList_cons.trans ?_) | (with_reducible refine evList_nil.trans ?_) | (with_reducible refine (br_true _ _).trans ?_) | (with_reducible refine (br_false _ _).trans ?_) | (with_reducible refine (br_pos (by assumption)).trans ?_) | (with_reducible refine (br_neg (by assumption)).trans ?_) | (with_reducible refine (navR_nil _ _ _).trans ?_) | (with_reducible refine (modR_nil _ _ _).trans ?_) | fail)
    conv => lhs; whnf
  · rw [if_neg hb]
    have e0 : decide (IntKind.i64.wrap (b - ((xs.map opA).length : Int)) < 0) = false := by rw [hw]; simpa using hb
    repeat' ((conv => lhs; whnf); first | (with_reducible refine evOps_cons.trans ?_) | (with_reducible refine evOps_nil.trans ?_) | (with_reducible refine ev_seq.trans ?_) | (with_reducible refine ev_region.trans ?_) | (with_reducible refine ev_cond.trans ?_) | (with_reducible refine ev_block.trans ?_) | (with_reducible refine ev_loop.trans ?_) | (with_reducible refine ev_exit.trans ?_) | (with_reducible refine ev_ret.trans ?_) | (with_reducible refine ev_skip.trans ?_) | (with_reducible refine ev_draw.trans ?_) | (with_reducible refine evList_cons.trans ?_) | (with_reducible refine evList_nil.trans ?_) | (with_reducible refine (br_true _ _).trans ?_) | (with_reducible refine (br_false _ _).trans ?_) | (with_reducible refine (br_pos (by assumption)).trans ?_) | (with_reducible refine (br_neg (by assumption)).trans ?_) | (with_reducible refine (navR_nil _ _ _).trans ?_) | (with_reducible refine (modR_nil _ _ _).trans ?_) | fail)
    conv => lhs; whnf
    rw [hw]
theorem f25 (n : Nat) (xs : List (List Op3)) (b : Int) (hx : xs.length ≤ maxLen) (hxs : ∀ l ∈ xs, l.length ≤ maxLen) (h0 : 0 ≤ b) (h1 : b ≤ 1048576) : callP cfg (n+2) 25 [progsA xs, .int .i64 b] = some ⟨.int .i64 (szP b xs), []⟩ := by
  unfold maxLen at hx
  rw [callP_succ]
  have hw : IntKind.i64.wrap (b - ((xs.map progA).length : Int)) = b - xs.length := by
    rw [List.length_map]; exact wrapI (by omega) (by omega)
  unfold szP
  by_cases hb : b - (xs.length : Int) < 0
  · rw [if_pos hb]
    have e0 : decide (IntKind.i64.wrap (b - ((xs.map progA).length : Int)) < 0) = true := by rw [hw]; simpa using hb
    repeat' ((conv => lhs; whnf); first | (with_reducible refine evOps_cons.trans ?_) | (with_reducible refine evOps_nil.trans ?_) | (with_reducible refine ev_seq.trans ?_) | (with_reducible refine ev_region.trans ?_) | (with_reducible refine ev_cond.trans ?_) | (with_reducible refine ev_block.trans ?_) | (with_reducible refine ev_loop.trans ?_) | (with_reducible refine ev_exit.trans ?_) | (with_reducible refine ev_ret.trans ?_) | (with_reducible refine ev_skip.trans ?_) | (with_reducible refine ev_draw.trans ?_) | (with_reducible refine evList_cons.trans ?_) | (with_reducible refine evList_nil.trans ?_) | (with_reducible refine (br_true _ _).trans ?_) | (with_reducible refine (br_false _ _).trans ?_) | (with_reducible refine (br_pos (by assumption)).trans ?_) | (with_reducible refine (br_neg (by assumption)).trans ?_) | (with_reducible refine (navR_nil _ _ _).trans ?_) | (with_reducible refine (modR_nil _ _ _).trans ?_) | fail)
    conv => lhs; whnf
  · rw [if_neg hb]
    have e0 : decide (IntKind.i64.wrap (b - ((xs.map progA).length : Int)) < 0) = false := by rw [hw]; simpa using hb
    repeat' ((conv => lhs; whnf); first | (with_reducible refine evOps_cons.trans ?_) | (with_reducible refine evOps_nil.trans ?_) | (with_reducible refine ev_seq.trans ?_) | (with_reducible refine ev_region.trans ?_) | (with_reducible refine ev_cond.trans ?_) | (with_reducible refine ev_block.trans ?_) | (with_reducible refine ev_loop.trans ?_) | (with_reducible refine ev_exit.trans ?_) | (with_reducible refine ev_ret.trans ?_) | (with_reducible refine ev_skip.trans ?_) | (with_reducible refine ev_draw.trans ?_) | (with_reducible refine evList_cons.trans ?_) | (with_reducible refine evList_nil.trans ?_) | (with_reducible refine (br_true _ _).trans ?_) | (with_reducible refine (br_false _ _).trans ?_) | (with_reducible refine (br_pos (by assumption)).trans ?_) | (with_reducible refine (br_neg (by assumption)).trans ?_) | (with_reducible refine (navR_nil _ _ _).trans ?_) | (with_reducible refine (modR_nil _ _ _).trans ?_) | fail)
    
    conv => lhs; whnf
    rw [hw]
    refine (evLoop_gen (fun e (x : Nat × Int) => (e.set 5 (.int .i64 (x.1 : Int))).set 1 (.int .i64 x.2)) (fun h _ => h) (fun x => some ⟨.int .i64 (szL x.2 (xs.drop x.1)), []⟩) (fun x => x.1 ≤ xs.length ∧ 0 ≤ x.2 ∧ x.2 ≤ 1048576) (fun x => xs.length - x.1) (0, b - xs.length) rfl ⟨by omega, by omega, by omega⟩ (by show _ < 18446744073709551616; omega) ?_).trans rfl
    rintro ⟨k, b⟩ f ⟨hk, h0, h1⟩ IH
    simp only at hk h0 h1 ⊢
    by_cases hlt : k < xs.length
    · have e1 := lt_map (f := progA) hlt
      have e2 := nonneg k
      have r1 := map_get (f := progA) hlt
      have hw := wrapS (k := k) (by omega)
      have hm := hxs _ (getD_mem hlt)
      rw [drop_cons hlt, szL]
      by_cases hv : sz1 b (xs.getD k default).length < 0
      · have e4 : decide (sz1 b (xs.getD k default).length < 0) = true := by simpa using hv
        rw [if_pos hv]
        repeat' ((conv => lhs; whnf); first | (with_reducible refine evOps_cons.trans ?_) | (with_reducible refine evOps_nil.trans ?_) | (with_reducible refine ev_seq.trans ?_) | (with_reducible refine ev_region.trans ?_) | (with_reducible refine ev_cond.trans ?_) | (with_reducible refine ev_block.trans ?_) | (with_reducible refine ev_loop.trans ?_) | (with_reducible refine ev_exit.trans ?_) | (with_reducible refine ev_ret.trans ?_) | (with_reducible refine ev_skip.trans ?_) | (with_reducible refine ev_draw.trans ?_) | (with_reducible refine evList_cons.trans ?_) | (with_reducible refine evList_nil.trans ?_) | (with_reducible refine (br_true _ _).trans ?_) | (with_reducible refine (br_false _ _).trans ?_) | (with_reducible refine (br_pos (by assumption)).trans ?_) | (with_reducible refine (br_neg (by assumption)).trans ?_) | (refine (getRow_eq r1).trans ?_) | (with_reducible refine (navR_atT r1 (by with_unfolding_all rfl)).trans ?_) | (with_reducible refine (modR_atT r1 (by with_unfolding_all rfl)).trans ?_) | (with_reducible refine (bnd_call (f42 _ _ _ hm h0 h1)).trans ?_) | (with_reducible refine (navR_nil _ _ _).trans ?_) | (with_reducible refine (modR_nil _ _ _).trans ?_) | fail)
        conv => lhs; whnf
      · have e4 : decide (sz1 b (xs.getD k default).length < 0) = false := by simpa using hv
        have h2 : sz1 b (xs.getD k default).length ≤ 1048576 := by
          unfold sz1; split <;> omega
        rw [if_neg hv]
        repeat' ((conv => lhs; whnf); first | (with_reducible refine evOps_cons.trans ?_) | (with_reducible refine evOps_nil.trans ?_) | (with_reducible refine ev_seq.trans ?_) | (with_reducible refine ev_region.trans ?_) | (with_reducible refine ev_cond.trans ?_) | (with_reducible refine ev_block.trans ?_) | (with_reducible refine ev_loop.trans ?_) | (with_reducible refine ev_exit.trans ?_) | (with_reducible refine ev_ret.trans ?_) | (with_reducible refine ev_skip.trans ?_) | (with_reducible refine ev_draw.trans ?_) | (with_reducible refine evList_cons.trans ?_) | (with_reducible refine evList_nil.trans ?_) | (with_reducible refine (br_true _ _).trans ?_) | (with_reducible refine (br_false _ _).trans ?_) | (with_reducible refine (br_pos (by assumption)).trans ?_) | (with_reducible refine (br_neg (by assumption)).trans ?_) | (refine (getRow_eq r1).trans ?_) | (with_reducible refine (navR_atT r1 (by with_unfolding_all rfl)).trans ?_) | (with_reducible refine (modR_atT r1 (by with_unfolding_all rfl)).trans ?_) | (with_reducible refine (bnd_call (f42 _ _ _ hm h0 h1)).trans ?_) | (with_reducible refine (navR_nil _ _ _).trans ?_) | (with_reducible refine (modR_nil _ _ _).trans ?_) | fail)
        conv => lhs; whnf
        exact IH (k + 1, sz1 b (xs.getD k default).length) _ _ ⟨hlt, by omega, h2⟩ (by show _ - _ < _ - _; omega) (by rw [hw]; rfl) rfl
    · have e1 := nlt_map (f := progA) (Nat.le_of_not_lt hlt)
      rw [List.drop_eq_nil_of_le (by omega)]
      repeat' ((conv => lhs; whnf); first | (with_reducible refine evOps_cons.trans ?_) | (with_reducible refine evOps_nil.trans ?_) | (with_reducible refine ev_seq.trans ?_) | (with_reducible refine ev_region.trans ?_) | (with_reducible refine ev_cond.trans ?_) | (with_reducible refine ev_block.trans ?_) | (with_reducible refine ev_loop.trans ?_) | (with_reducible refine ev_exit.trans ?_) | (with_reducible refine ev_ret.trans ?_) | (with_reducible refine ev_skip.trans ?_) | (with_reducible refine ev_draw.trans ?_) | (with_reducible refine evList_cons.trans ?_) | (with_reducible refine evList_nil.trans ?_) | (with_reducible refine (br_true _ _).trans ?_) | (with_reducible refine (br_false _ _).trans ?_) | (with_reducible refine (br_pos (by assumption)).trans ?_) | (with_reducible refine (br_neg (by assumption)).trans ?_) | (with_reducible refine (navR_nil _ _ _).trans ?_) | (with_reducible refine (modR_nil _ _ _).trans ?_) | fail)
      conv => lhs; whnf
      rfl
theorem f27 (n : Nat) (xs : List Op3) (hx : xs.length ≤ maxLen) : callP cfg (n+3) 27 [opsA xs] = some ⟨.bool (xs.all isOpB && decide (xs.length ≤ 20)), []⟩ := by
  unfold maxLen at hx
  rw [callP_succ]
  repeat' ((conv => lhs; whnf); first | (with_reducible refine evOps_cons.trans ?_) | (with_reducible refine evOps_nil.trans ?_) | (with_reducible refine ev_seq.trans ?_) | (with_reducible refine ev_region.trans ?_) | (with_reducible refine ev_cond.trans ?_) | (with_reducible refine ev_block.trans ?_) | (with_reducible refine ev_loop.trans ?_) | (with_reducible refine ev_exit.trans ?_) | (with_reducible refine ev_ret.trans ?_) | (with_reducible refine ev_skip.trans ?_) | (with_reducible refine ev_draw.trans ?_) | (with_reducible refine evList_cons.trans ?_) | (with_reducible refine evList_nil.trans ?_) | (with_reducible refine (br_true _ _).trans ?_) | (with_reducible refine (br_false _ _).trans ?_) | (with_reducible refine (br_pos (by assumption)).trans ?_) | (with_reducible refine (br_neg (by assumption)).trans ?_) | (with_reducible refine (navR_nil _ _ _).trans ?_) | (with_reducible refine (modR_nil _ _ _).trans ?_) | fail)
  
  refine (evLoop_run (fun e k => e.set 3 (.int .i64 (k : Int))) (fun h _ => h) (fun k => some ⟨.bool ((xs.drop k).all isOpB && decide (xs.length ≤ 20)), []⟩) xs.length (by show _ < 18446744073709551616; omega) rfl ?_).trans (by simp)
  intro k f hk IH
  by_cases hlt : k < xs.length
  · have e1 := lt_map (f := opA) hlt
    have e2 := nonneg k
    have r1 := map_get (f := opA) hlt
    have hw := wrapS (k := k) (by omega)
    by_cases hv : isOpB (xs.getD k default) = true
    · have e4 : (!isOpB (xs.getD k default)) = false := by rw [hv]; rfl
      repeat' ((conv => lhs; whnf); first | (with_reducible refine evOps_cons.trans ?_) | (with_reducible refine evOps_nil.trans ?_) | (with_reducible refine ev_seq.trans ?_) | (with_reducible refine ev_region.trans ?_) | (with_reducible refine ev_cond.trans ?_) | (with_reducible refine ev_block.trans ?_) | (with_reducible refine ev_loop.trans ?_) | (with_reducible refine ev_exit.trans ?_) | (with_reducible refine ev_ret.trans ?_) | (with_reducible refine ev_skip.trans ?_) | (with_reducible refine ev_draw.trans ?_) | (with_reducible refine evList_cons.trans ?_) | (with_reducible refine evList_nil.trans ?_) | (with_reducible refine (br_true _ _).trans ?_) | (with_reducible refine (br_false _ _).trans ?_) | (with_reducible refine (br_pos (by assumption)).trans ?_) | (with_reducible refine (br_neg (by assumption)).trans ?_) | (refine (getRow_eq r1).trans ?_) | (with_reducible refine (navR_atT r1 (by with_unfolding_all rfl)).trans ?_) | (with_reducible refine (modR_atT r1 (by with_unfolding_all rfl)).trans ?_) | (with_reducible refine (bnd_call (f43 _ _)).trans ?_) | (with_reducible refine (navR_nil _ _ _).trans ?_) | (with_reducible refine (modR_nil _ _ _).trans ?_) | fail)
      conv => lhs; whnf
      refine (IH hlt _ _ (by rw [hw]; rfl) rfl).trans ?_
      rw [drop_cons hlt, List.all_cons, hv, Bool.true_and]
    · have hv' : isOpB (xs.getD k default) = false := by simpa using hv
      have e4 : (!isOpB (xs.getD k default)) = true := by rw [hv']; rfl
      repeat' ((conv => lhs; whnf); first | (with_reducible refine evOps_cons.trans ?_) | (with_reducible refine evOps_nil.trans ?_) | (with_reducible refine ev_seq.trans ?_) | (with_reducible refine ev_region.trans ?_) | (with_reducible refine ev_cond.trans ?_) | (with_reducible refine ev_block.trans ?_) | (with_reducible refine ev_loop.trans ?_) | (with_reducible refine ev_exit.trans ?_) | (with_reducible refine ev_ret.trans ?_) | (with_reducible refine ev_skip.trans ?_) | (with_reducible refine ev_draw.trans ?_) | (with_reducible refine evList_cons.trans ?_) | (with_reducible refine evList_nil.trans ?_) | (with_reducible refine (br_true _ _).trans ?_) | (with_reducible refine (br_false _ _).trans ?_) | (with_reducible refine (br_pos (by assumption)).trans ?_) | (with_reducible refine (br_neg (by assumption)).trans ?_) | (refine (getRow_eq r1).trans ?_) | (with_reducible refine (navR_atT r1 (by with_unfolding_all rfl)).trans ?_) | (with_reducible refine (modR_atT r1 (by with_unfolding_all rfl)).trans ?_) | (with_reducible refine (bnd_call (f43 _ _)).trans ?_) | (with_reducible refine (navR_nil _ _ _).trans ?_) | (with_reducible refine (modR_nil _ _ _).trans ?_) | fail)
      conv => lhs; whnf
      rw [drop_cons hlt, List.all_cons, hv']; rfl
  · have e1 := nlt_map (f := opA) (Nat.le_of_not_lt hlt)
    rw [List.drop_eq_nil_of_le (by omega), List.all_nil, Bool.true_and]
    repeat' ((conv => lhs; whnf); first | (with_reducible refine evOps_cons.trans ?_) | (with_reducible refine evOps_nil.trans ?_) | (with_reducible refine ev_seq.trans ?_) | (with_reducible refine ev_region.trans ?_) | (with_reducible refine ev_cond.trans ?_) | (with_reducible refine ev_block.trans ?_) | (with_reducible refine ev_loop.trans ?_) | (with_reducible refine ev_exit.trans ?_) | (with_reducible refine ev_ret.trans ?_) | (with_reducible refine ev_skip.trans ?_) | (with_reducible refine ev_draw.trans ?_) | (with_reducible refine evList_cons.trans ?_) | (with_reducible refine evList_nil.trans ?_) | (with_reducible refine (br_true _ _).trans ?_) | (with_reducible refine (br_false _ _).trans ?_) | (with_reducible refine (br_pos (by assumption)).trans ?_) | (with_reducible refine (br_neg (by assumption)).trans ?_) | (with_reducible refine (navR_nil _ _ _).trans ?_) | (with_reducible refine (modR_nil _ _ _).trans ?_) | fail)
    conv => lhs; whnf
    simp; omega
theorem f47 (n : Nat) (xs : List Op3) (hx : xs.length ≤ maxLen) : callP cfg (n+3) 47 [opsA xs] = some ⟨.bool (xs.all isOpB && decide (xs.length ≤ 20)), []⟩ := by
  unfold maxLen at hx
  rw [callP_succ]
  repeat' ((conv => lhs; whnf); first | (with_reducible refine evOps_cons.trans ?_) | (with_reducible refine evOps_nil.trans ?_) | (with_reducible refine ev_seq.trans ?_) | (with_reducible refine ev_region.trans ?_) | (with_reducible refine ev_cond.trans ?_) | (with_reducible refine ev_block.trans ?_) | (with_reducible refine ev_loop.trans ?_) | (with_reducible refine ev_exit.trans ?_) | (with_reducible refine ev_ret.trans ?_) | (with_reducible refine ev_skip.trans ?_) | (with_reducible refine ev_draw.trans ?_) | (with_reducible refine evList_cons.trans ?_) | (with_reducible refine evList_nil.trans ?_) | (with_reducible refine (br_true _ _).trans ?_) | (with_reducible refine (br_false _ _).trans ?_) | (with_reducible refine (br_pos (by assumption)).trans ?_) | (with_reducible refine (br_neg (by assumption)).trans ?_) | (with_reducible refine (navR_nil _ _ _).trans ?_) | (with_reducible refine (modR_nil _ _ _).trans ?_) | fail)
  
  refine (evLoop_run (fun e k => e.set 7 (.int .i64 (k : Int))) (fun h _ => h) (fun k => some ⟨.bool ((xs.drop k).all isOpB && decide (xs.length ≤ 20)), []⟩) xs.length (by show _ < 18446744073709551616; omega) rfl ?_).trans (by simp)
  intro k f hk IH
  by_cases hlt : k < xs.length
  · have e1 := lt_map (f := opA) hlt
    have e2 := nonneg k
    have r1 := map_get (f := opA) hlt
    have hw := wrapS (k := k) (by omega)
    by_cases hv : isOpB (xs.getD k default) = true
    · have e4 : (!isOpB (xs.getD k default)) = false := by rw [hv]; rfl
      repeat' ((conv => lhs; whnf); first | (with_reducible refine evOps_cons.trans ?_) | (with_reducible refine evOps_nil.trans ?_) | (with_reducible refine ev_seq.trans ?_) | (with_reducible refine ev_region.trans ?_) | (with_reducible refine ev_cond.trans ?_) | (with_reducible refine ev_block.trans ?_) | (with_reducible refine ev_loop.trans ?_) | (with_reducible refine ev_exit.trans ?_) | (with_reducible refine ev_ret.trans ?_) | (with_reducible refine ev_skip.trans ?_) | (with_reducible refine ev_draw.trans ?_) | (with_reducible refine evList_cons.trans ?_) | (with_reducible refine evList_nil.trans ?_) | (with_reducible refine (br_true _ _).trans ?_) | (with_reducible refine (br_false _ _).trans ?_) | (with_reducible refine (br_pos (by assumption)).trans ?_) | (with_reducible refine (br_neg (by assumption)).trans ?_) | (refine (getRow_eq r1).trans ?_) | (with_reducible refine (navR_atT r1 (by with_unfolding_all rfl)).trans ?_) | (with_reducible refine (modR_atT r1 (by with_unfolding_all rfl)).trans ?_) | (with_reducible refine (bnd_call (f55 _ _)).trans ?_) | (with_reducible refine (navR_nil _ _ _).trans ?_) | (with_reducible refine (modR_nil _ _ _).trans ?_) | fail)
      conv => lhs; whnf
      refine (IH hlt _ _ (by rw [hw]; rfl) rfl).trans ?_
      rw [drop_cons hlt, List.all_cons, hv, Bool.true_and]
    · have hv' : isOpB (xs.getD k default) = false := by simpa using hv
      have e4 : (!isOpB (xs.getD k default)) = true := by rw [hv']; rfl
      repeat' ((conv => lhs; whnf); first | (with_reducible refine evOps_cons.trans ?_) | (with_reducible refine evOps_nil.trans ?_) | (with_reducible refine ev_seq.trans ?_) | (with_reducible refine ev_region.trans ?_) | (with_reducible refine ev_cond.trans ?_) | (with_reducible refine ev_block.trans ?_) | (with_reducible refine ev_loop.trans ?_) | (with_reducible refine ev_exit.trans ?_) | (with_reducible refine ev_ret.trans ?_) | (with_reducible refine ev_skip.trans ?_) | (with_reducible refine ev_draw.trans ?_) | (with_reducible refine evList_cons.trans ?_) | (with_reducible refine evList_nil.trans ?_) | (with_reducible refine (br_true _ _).trans ?_) | (with_reducible refine (br_false _ _).trans ?_) | (with_reducible refine (br_pos (by assumption)).trans ?_) | (with_reducible refine (br_neg (by assumption)).trans ?_) | (refine (getRow_eq r1).trans ?_) | (with_reducible refine (navR_atT r1 (by with_unfolding_all rfl)).trans ?_) | (with_reducible refine (modR_atT r1 (by with_unfolding_all rfl)).trans ?_) | (with_reducible refine (bnd_call (f55 _ _)).trans ?_) | (with_reducible refine (navR_nil _ _ _).trans ?_) | (with_reducible refine (modR_nil _ _ _).trans ?_) | fail)
      conv => lhs; whnf
      rw [drop_cons hlt, List.all_cons, hv']; rfl
  · have e1 := nlt_map (f := opA) (Nat.le_of_not_lt hlt)
    rw [List.drop_eq_nil_of_le (by omega), List.all_nil, Bool.true_and]
    repeat' ((conv => lhs; whnf); first | (with_reducible refine evOps_cons.trans ?_) | (with_reducible refine evOps_nil.trans ?_) | (with_reducible refine ev_seq.trans ?_) | (with_reducible refine ev_region.trans ?_) | (with_reducible refine ev_cond.trans ?_) | (with_reducible refine ev_block.trans ?_) | (with_reducible refine ev_loop.trans ?_) | (with_reducible refine ev_exit.trans ?_) | (with_reducible refine ev_ret.trans ?_) | (with_reducible refine ev_skip.trans ?_) | (with_reducible refine ev_draw.trans ?_) | (with_reducible refine evList_cons.trans ?_) | (with_reducible refine evList_nil.trans ?_) | (with_reducible refine (br_true _ _).trans ?_) | (with_reducible refine (br_false _ _).trans ?_) | (with_reducible refine (br_pos (by assumption)).trans ?_) | (with_reducible refine (br_neg (by assumption)).trans ?_) | (with_reducible refine (navR_nil _ _ _).trans ?_) | (with_reducible refine (modR_nil _ _ _).trans ?_) | fail)
    conv => lhs; whnf
    simp; omega
theorem f48 (n : Nat) (xs : List Int) (hx : xs.length ≤ maxLen) : callP cfg (n+3) 48 [intsA xs, .fn 32 []] = some ⟨.int .i64 (idxF (fun a => !pick9 a) 0 xs), []⟩ := by
  unfold maxLen at hx
  rw [callP_succ]
  repeat' ((conv => lhs; whnf); first | (with_reducible refine evOps_cons.trans ?_) | (with_reducible refine evOps_nil.trans ?_) | (with_reducible refine ev_seq.trans ?_) | (with_reducible refine ev_region.trans ?_) | (with_reducible refine ev_cond.trans ?_) | (with_reducible refine ev_block.trans ?_) | (with_reducible refine ev_loop.trans ?_) | (with_reducible refine ev_exit.trans ?_) | (with_reducible refine ev_ret.trans ?_) | (with_reducible refine ev_skip.trans ?_) | (with_reducible refine ev_draw.trans ?_) | (with_reducible refine evList_cons.trans ?_) | (with_reducible refine evList_nil.trans ?_) | (with_reducible refine (br_true _ _).trans ?_) | (with_reducible refine (br_false _ _).trans ?_) | (with_reducible refine (br_pos (by assumption)).trans ?_) | (with_reducible refine (br_neg (by assumption)).trans ?_) | (with_reducible refine (navR_nil _ _ _).trans ?_) | (with_reducible refine (modR_nil _ _ _).trans ?_) | fail)
  
  refine (evLoop_run (fun e k => e.set 8 (.int .i64 (k : Int))) (fun h _ => h) (fun k => some ⟨.int .i64 (idxF (fun a => !pick9 a) k (xs.drop k)), []⟩) xs.length (by show _ < 18446744073709551616; omega) rfl ?_).trans rfl
  intro k f hk IH
  by_cases hlt : k < xs.length
  · have e1 := lt_map (f := iA) hlt
    have e2 := nonneg k
    have r1 := map_get (f := iA) hlt
    have hw := wrapS (k := k) (by omega)
    rw [drop_cons hlt]
    by_cases hv : (fun a => !pick9 a) (xs.getD k default) = true
    · have hi : idxF (fun a => !pick9 a) k (xs.getD k default :: xs.drop (k + 1)) = (k : Int) := if_pos hv
      rw [hi]
      repeat' ((conv => lhs; whnf); first | (with_reducible refine evOps_cons.trans ?_) | (with_reducible refine evOps_nil.trans ?_) | (with_reducible refine ev_seq.trans ?_) | (with_reducible refine ev_region.trans ?_) | (with_reducible refine ev_cond.trans ?_) | (with_reducible refine ev_block.trans ?_) | (with_reducible refine ev_loop.trans ?_) | (with_reducible refine ev_exit.trans ?_) | (with_reducible refine ev_ret.trans ?_) | (with_reducible refine ev_skip.trans ?_) | (with_reducible refine ev_draw.trans ?_) | (with_reducible refine evList_cons.trans ?_) | (with_reducible refine evList_nil.trans ?_) | (with_reducible refine (br_true _ _).trans ?_) | (with_reducible refine (br_false _ _).trans ?_) | (with_reducible refine (br_pos (by assumption)).trans ?_) | (with_reducible refine (br_neg (by assumption)).trans ?_) | (refine (getRow_eq r1).trans ?_) | (with_reducible refine (navR_atT r1 (by with_unfolding_all rfl)).trans ?_) | (with_reducible refine (modR_atT r1 (by with_unfolding_all rfl)).trans ?_) | (with_reducible refine (bnd_call (f32 _ _)).trans ?_) | (with_reducible refine (navR_nil _ _ _).trans ?_) | (with_reducible refine (modR_nil _ _ _).trans ?_) | fail)
      conv => lhs; whnf
    · have hv' : (fun a => !pick9 a) (xs.getD k default) = false := by simpa using hv
      have hi : idxF (fun a => !pick9 a) k (xs.getD k default :: xs.drop (k + 1)) = idxF (fun a => !pick9 a) (k + 1) (xs.drop (k + 1)) := if_neg hv
      rw [hi]
      repeat' ((conv => lhs; whnf); first | (with_reducible refine evOps_cons.trans ?_) | (with_reducible refine evOps_nil.trans ?_) | (with_reducible refine ev_seq.trans ?_) | (with_reducible refine ev_region.trans ?_) | (with_reducible refine ev_cond.trans ?_) | (with_reducible refine ev_block.trans ?_) | (with_reducible refine ev_loop.trans ?_) | (with_reducible refine ev_exit.trans ?_) | (with_reducible refine ev_ret.trans ?_) | (with_reducible refine ev_skip.trans ?_) | (with_reducible refine ev_draw.trans ?_) | (with_reducible refine evList_cons.trans ?_) | (with_reducible refine evList_nil.trans ?_) | (with_reducible refine (br_true _ _).trans ?_) | (with_reducible refine (br_false _ _).trans ?_) | (with_reducible refine (br_pos (by assumption)).trans ?_) | (with_reducible refine (br_neg (by assumption)).trans ?_) | (refine (getRow_eq r1).trans ?_) | (with_reducible refine (navR_atT r1 (by with_unfolding_all rfl)).trans ?_) | (with_reducible refine (modR_atT r1 (by with_unfolding_all rfl)).trans ?_) | (with_reducible refine (bnd_call (f32 _ _)).trans ?_) | (with_reducible refine (navR_nil _ _ _).trans ?_) | (with_reducible refine (modR_nil _ _ _).trans ?_) | fail)
      conv => lhs; whnf
      exact IH hlt _ _ (by rw [hw]; rfl) rfl
  · have e1 := nlt_map (f := iA) (Nat.le_of_not_lt hlt)
    rw [List.drop_eq_nil_of_le (by omega)]
    repeat' ((conv => lhs; whnf); first | (with_reducible refine evOps_cons.trans ?_) | (with_reducible refine evOps_nil.trans ?_) | (with_reducible refine ev_seq.trans ?_) | (with_reducible refine ev_region.trans ?_) | (with_reducible refine ev_cond.trans ?_) | (with_reducible refine ev_block.trans ?_) | (with_reducible refine ev_loop.trans ?_) | (with_reducible refine ev_exit.trans ?_) | (with_reducible refine ev_ret.trans ?_) | (with_reducible refine ev_skip.trans ?_) | (with_reducible refine ev_draw.trans ?_) | (with_reducible refine evList_cons.trans ?_) | (with_reducible refine evList_nil.trans ?_) | (with_reducible refine (br_true _ _).trans ?_) | (with_reducible refine (br_false _ _).trans ?_) | (with_reducible refine (br_pos (by assumption)).trans ?_) | (with_reducible refine (br_neg (by assumption)).trans ?_) | (with_reducible refine (navR_nil _ _ _).trans ?_) | (with_reducible refine (modR_nil _ _ _).trans ?_) | fail)
    conv => lhs; whnf
    rfl
theorem f46 (n : Nat) (xs : List Op3) (hx : xs.length ≤ maxLen) : callP cfg (n+4) 46 [opsA xs] = some ⟨.bool (!isProgB xs), []⟩ := by
  rw [callP_succ]
  repeat' ((conv => lhs; whnf); first | (with_reducible refine evOps_cons.trans ?_) | (with_reducible refine evOps_nil.trans ?_) | (with_reducible refine ev_seq.trans ?_) | (with_reducible refine ev_region.trans ?_) | (with_reducible refine ev_cond.trans ?_) | (with_reducible refine ev_block.trans ?_) | (with_reducible refine ev_loop.trans ?_) | (with_reducible refine ev_exit.trans ?_) | (with_reducible refine ev_ret.trans ?_) | (with_reducible refine ev_skip.trans ?_) | (with_reducible refine ev_draw.trans ?_) | (with_reducible refine evList_cons.trans ?_) | (with_reducible refine evList_nil.trans ?_) | (with_reducible refine (br_true _ _).trans ?_) | (with_reducible refine (br_false _ _).trans ?_) | (with_reducible refine (br_pos (by assumption)).trans ?_) | (with_reducible refine (br_neg (by assumption)).trans ?_) | (with_reducible refine (bnd_call (f47 _ _ hx)).trans ?_) | (with_reducible refine (navR_nil _ _ _).trans ?_) | (with_reducible refine (modR_nil _ _ _).trans ?_) | fail)
  conv => lhs; whnf
  rfl
theorem f54 (n : Nat) (xs : List (List Op3)) (hx : xs.length ≤ maxLen) (hxs : ∀ l ∈ xs, l.length ≤ maxLen) : callP cfg (n+5) 54 [progsA xs, .fn 46 []] = some ⟨.int .i64 (idxF (fun a => !isProgB a) 0 xs), []⟩ := by
  unfold maxLen at hx
  rw [callP_succ]
  repeat' ((conv => lhs; whnf); first | (with_reducible refine evOps_cons.trans ?_) | (with_reducible refine evOps_nil.trans ?_) | (with_reducible refine ev_seq.trans ?_) | (with_reducible refine ev_region.trans ?_) | (with_reducible refine ev_cond.trans ?_) | (with_reducible refine ev_block.trans ?_) | (with_reducible refine ev_loop.trans ?_) | (with_reducible refine ev_exit.trans ?_) | (with_reducible refine ev_ret.trans ?_) | (with_reducible refine ev_skip.trans ?_) | (with_reducible refine ev_draw.trans ?_) | (with_reducible refine evList_cons.trans ?_) | (with_reducible refine evList_nil.trans ?_) | (with_reducible refine (br_true _ _).trans ?_) | (with_reducible refine (br_false _ _).trans ?_) | (with_reducible refine (br_pos (by assumption)).trans ?_) | (with_reducible refine (br_neg (by assumption)).trans ?_) | (with_reducible refine (navR_nil _ _ _).trans ?_) | (with_reducible refine (modR_nil _ _ _).trans ?_) | fail)
  
  refine (evLoop_run (fun e k => e.set 8 (.int .i64 (k : Int))) (fun h _ => h) (fun k => some ⟨.int .i64 (idxF (fun a => !isProgB a) k (xs.drop k)), []⟩) xs.length (by show _ < 18446744073709551616; omega) rfl ?_).trans rfl
  intro k f hk IH
  by_cases hlt : k < xs.length
  · have e1 := lt_map (f := progA) hlt
    have e2 := nonneg k
    have r1 := map_get (f := progA) hlt
    have hw := wrapS (k := k) (by omega)
    have hm := hxs _ (getD_mem hlt)
    rw [drop_cons hlt]
    by_cases hv : (fun a => !isProgB a) (xs.getD k default) = true
    · have hi : idxF (fun a => !isProgB a) k (xs.getD k default :: xs.drop (k + 1)) = (k : Int) := if_pos hv
      rw [hi]
      repeat' ((conv => lhs; whnf); first | (with_reducible refine evOps_cons.trans ?_) | (with_reducible refine evOps_nil.trans ?_) | (with_reducible refine ev_seq.trans ?_) | (with_reducible refine ev_region.trans ?_) | (with_reducible refine ev_cond.trans ?_) | (with_reducible refine ev_block.trans ?_) | (with_reducible refine ev_loop.trans ?_) | (with_reducible refine ev_exit.trans ?_) | (with_reducible refine ev_ret.trans ?_) | (with_reducible refine ev_skip.trans ?_) | (with_reducible refine ev_draw.trans ?_) | (with_reducible refine evList_cons.trans ?_) | (with_reducible refine evList_nil.trans ?_) | (with_reducible refine (br_true _ _).trans ?_) | (with_reducible refine (br_false _ _).trans ?_) | (with_reducible refine (br_pos (by assumption)).trans ?_) | (with_reducible refine (br_neg (by assumption)).trans ?_) | (refine (getRow_eq r1).trans ?_) | (with_reducible refine (navR_atT r1 (by with_unfolding_all rfl)).trans ?_) | (with_reducible refine (modR_atT r1 (by with_unfolding_all rfl)).trans ?_) | (with_reducible refine (bnd_call (f46 _ _ hm)).trans ?_) | (with_reducible refine (navR_nil _ _ _).trans ?_) | (with_reducible refine (modR_nil _ _ _).trans ?_) | fail)
      conv => lhs; whnf
    · have hv' : (fun a => !isProgB a) (xs.getD k default) = false := by simpa using hv
      have hi : idxF (fun a => !isProgB a) k (xs.getD k default :: xs.drop (k + 1)) = idxF (fun a => !isProgB a) (k + 1) (xs.drop (k + 1)) := if_neg hv
      rw [hi]
      repeat' ((conv => lhs; whnf); first | (with_reducible refine evOps_cons.trans ?_) | (with_reducible refine evOps_nil.trans ?_) | (with_reducible refine ev_seq.trans ?_) | (with_reducible refine ev_region.trans ?_) | (with_reducible refine ev_cond.trans ?_) | (with_reducible refine ev_block.trans ?_) | (with_reducible refine ev_loop.trans ?_) | (with_reducible refine ev_exit.trans ?_) | (with_reducible refine ev_ret.trans ?_) | (with_reducible refine ev_skip.trans ?_) | (with_reducible refine ev_draw.trans ?_) | (with_reducible refine evList_cons.trans ?_) | (with_reducible refine evList_nil.trans ?_) | (with_reducible refine (br_true _ _).trans ?_) | (with_reducible refine (br_false _ _).trans ?_) | (with_reducible refine (br_pos (by assumption)).trans ?_) | (with_reducible refine (br_neg (by assumption)).trans ?_) | (refine (getRow_eq r1).trans ?_) | (with_reducible refine (navR_atT r1 (by with_unfolding_all rfl)).trans ?_) | (with_reducible refine (modR_atT r1 (by with_unfolding_all rfl)).trans ?_) | (with_reducible refine (bnd_call (f46 _ _ hm)).trans ?_) | (with_reducible refine (navR_nil _ _ _).trans ?_) | (with_reducible refine (modR_nil _ _ _).trans ?_) | fail)
      conv => lhs; whnf
      exact IH hlt _ _ (by rw [hw]; rfl) rfl
  · have e1 := nlt_map (f := progA) (Nat.le_of_not_lt hlt)
    rw [List.drop_eq_nil_of_le (by omega)]
    repeat' ((conv => lhs; whnf); first | (with_reducible refine evOps_cons.trans ?_) | (with_reducible refine evOps_nil.trans ?_) | (with_reducible refine ev_seq.trans ?_) | (with_reducible refine ev_region.trans ?_) | (with_reducible refine ev_cond.trans ?_) | (with_reducible refine ev_block.trans ?_) | (with_reducible refine ev_loop.trans ?_) | (with_reducible refine ev_exit.trans ?_) | (with_reducible refine ev_ret.trans ?_) | (with_reducible refine ev_skip.trans ?_) | (with_reducible refine ev_draw.trans ?_) | (with_reducible refine evList_cons.trans ?_) | (with_reducible refine evList_nil.trans ?_) | (with_reducible refine (br_true _ _).trans ?_) | (with_reducible refine (br_false _ _).trans ?_) | (with_reducible refine (br_pos (by assumption)).trans ?_) | (with_reducible refine (br_neg (by assumption)).trans ?_) | (with_reducible refine (navR_nil _ _ _).trans ?_) | (with_reducible refine (modR_nil _ _ _).trans ?_) | fail)
    conv => lhs; whnf
    rfl
theorem f31 (n : Nat) (xs : List Int) (hx : xs.length ≤ maxLen) : callP cfg (n+4) 31 [intsA xs, .fn 32 []] = some ⟨.bool (xs.any fun a => !pick9 a), []⟩ := by
  rw [callP_succ]
  repeat' ((conv => lhs; whnf); first | (with_reducible refine evOps_cons.trans ?_) | (with_reducible refine evOps_nil.trans ?_) | (with_reducible refine ev_seq.trans ?_) | (with_reducible refine ev_region.trans ?_) | (with_reducible refine ev_cond.trans ?_) | (with_reducible refine ev_block.trans ?_) | (with_reducible refine ev_loop.trans ?_) | (with_reducible refine ev_exit.trans ?_) | (with_reducible refine ev_ret.trans ?_) | (with_reducible refine ev_skip.trans ?_) | (with_reducible refine ev_draw.trans ?_) | (with_reducible refine evList_cons.trans ?_) | (with_reducible refine evList_nil.trans ?_) | (with_reducible refine (br_true _ _).trans ?_) | (with_reducible refine (br_false _ _).trans ?_) | (with_reducible refine (br_pos (by assumption)).trans ?_) | (with_reducible refine (br_neg (by assumption)).trans ?_) | (with_reducible refine (bnd_call (f48 _ _ hx)).trans ?_) | (with_reducible refine (navR_nil _ _ _).trans ?_) | (with_reducible refine (modR_nil _ _ _).trans ?_) | fail)
  conv => lhs; whnf
  rw [← idxF_any _ _ 0]
theorem f45 (n : Nat) (xs : List (List Op3)) (hx : xs.length ≤ maxLen) (hxs : ∀ l ∈ xs, l.length ≤ maxLen) : callP cfg (n+6) 45 [progsA xs, .fn 46 []] = some ⟨.bool (xs.any fun a => !isProgB a), []⟩ := by
  rw [callP_succ]
  repeat' ((conv => lhs; whnf); first | (with_reducible refine evOps_cons.trans ?_) | (with_reducible refine evOps_nil.trans ?_) | (with_reducible refine ev_seq.trans ?_) | (with_reducible refine ev_region.trans ?_) | (with_reducible refine ev_cond.trans ?_) | (with_reducible refine ev_block.trans ?_) | (with_reducible refine ev_loop.trans ?_) | (with_reducible refine ev_exit.trans ?_) | (with_reducible refine ev_ret.trans ?_) | (with_reducible refine ev_skip.trans ?_) | (with_reducible refine ev_draw.trans ?_) | (with_reducible refine evList_cons.trans ?_) | (with_reducible refine evList_nil.trans ?_) | (with_reducible refine (br_true _ _).trans ?_) | (with_reducible refine (br_false _ _).trans ?_) | (with_reducible refine (br_pos (by assumption)).trans ?_) | (with_reducible refine (br_neg (by assumption)).trans ?_) | (with_reducible refine (bnd_call (f54 _ _ hx hxs)).trans ?_) | (with_reducible refine (navR_nil _ _ _).trans ?_) | (with_reducible refine (modR_nil _ _ _).trans ?_) | fail)
  conv => lhs; whnf
  rw [← idxF_any _ _ 0]
end Go.Proofs.Ytnhggokeblijpaa.A
namespace Go.Proofs.Ytnhggokeblijpaa.A
open Go Go.Abs
set_option maxRecDepth 100000
structure Scr where
  a : Int
  b : Int
  c : Int
  d : Int
  e : Int
  f : Int
  ps : List (List Op3)
  qs : List Int
  deriving Inhabited, DecidableEq
abbrev scrA (s : Scr) : List AV := [.int .i64 s.a, .int .i64 s.b, .int .i64 s.c, .int .i64 s.d, .int .i64 s.e, .int .i64 s.f, progsA s.ps, intsA s.qs]
def szScr (s : Scr) (b : Int) : Int := if szP b s.ps < 0 then -1 else if sz1 (szP b s.ps) s.qs.length < 0 then -1 else sz1 (szP b s.ps) s.qs.length
def Scr.len (s : Scr) : Prop := s.ps.length ≤ maxLen ∧ (∀ l ∈ s.ps, l.length ≤ maxLen) ∧ s.qs.length ≤ maxLen
def Scr.room (s : Scr) : Prop := s.ps.length ≤ 1048576 ∧ (∀ l ∈ s.ps, l.length ≤ 1048576) ∧ s.qs.length ≤ 1048576
theorem sz1_le (b : Int) (n : Nat) (h : b ≤ 1048576) : sz1 b n ≤ 1048576 := by unfold sz1; split <;> omega
theorem szL_le : ∀ (ps : List (List Op3)) (b : Int), b ≤ 1048576 → szL b ps ≤ 1048576
  | [], b, h => h
  | l :: ps, b, h => by
    unfold szL; split
    · omega
    · exact szL_le ps _ (sz1_le _ _ h)
theorem szP_le (b : Int) (ps : List (List Op3)) (h : b ≤ 1048576) : szP b ps ≤ 1048576 := by
  unfold szP; split
  · omega
  · exact szL_le _ _ (by omega)
theorem szL_room : ∀ (ps : List (List Op3)) (b : Int), b ≤ 1048576 → 0 ≤ szL b ps → ∀ l ∈ ps, l.length ≤ 1048576
  | [], b, h, h0, l, hl => by cases hl
  | l :: ps, b, h, h0, m, hm => by
    unfold szL at h0
    split at h0
    · omega
    · rename_i hs
      have h1 : l.length ≤ 1048576 := by unfold sz1 at hs; split at hs <;> omega
      rcases List.mem_cons.1 hm with rfl | hm
      · exact h1
      · exact szL_room ps _ (sz1_le _ _ h) h0 m hm
theorem szScr_room (s : Scr) (h : 0 ≤ szScr s 1048576) : s.room := by
  unfold szScr at h
  split at h
  · omega
  · rename_i h1
    split at h
    · omega
    · rename_i h2
      have hp := szP_le 1048576 s.ps (by omega)
      refine ⟨?_, ?_, ?_⟩
      · unfold szP at h1
        split at h1 <;> omega
      · unfold szP at h1
        split at h1
        · omega
        · exact szL_room s.ps (1048576 - s.ps.length) (by omega) (by omega)
      · unfold sz1 at h2
        split at h2 <;> omega
theorem Scr.room_len {s : Scr} (h : s.room) : s.len := ⟨by unfold maxLen; have := h.1; omega, fun l hl => by unfold maxLen; have := h.2.1 l hl; omega, by unfold maxLen; have := h.2.2; omega⟩
theorem any_not {α : Type} (p : α → Bool) (l : List α) : (l.any fun a => !p a) = !l.all p := by induction l with
  | nil => rfl
  | cons a l ih => simp only [List.any_cons, List.all_cons, ih, Bool.not_and]
theorem f12 (n : Nat) (s : Scr) (hs : s.len) (b : Int) (h0 : 0 ≤ b) (h1 : b ≤ 1048576) : callP cfg (n+3) 12 [.agg (scrA s), .int .i64 b] = some ⟨.int .i64 (szScr s b), []⟩ := by
  rw [callP_succ]
  obtain ⟨hl1, hl2, hl3⟩ := hs
  unfold szScr
  by_cases hp : szP b s.ps < 0
  · rw [if_pos hp]
    have e0 : decide (szP b s.ps < 0) = true := by simpa using hp
    repeat' ((conv => lhs; whnf); first | (with_reducible refine evOps_cons.trans ?_) | (with_reducible refine evOps_nil.trans ?_) | (with_reducible refine ev_seq.trans ?_) | (with_reducible refine ev_region.trans ?_) | (with_reducible refine ev_cond.trans ?_) | (with_reducible refine ev_block.trans ?_) | (with_reducible refine ev_loop.trans ?_) | (with_reducible refine ev_exit.trans ?_) | (with_reducible refine ev_ret.trans ?_) | (with_reducible refine ev_skip.trans ?_) | (with_reducible refine ev_draw.trans ?_) | (with_reducible refine evList_cons.trans ?_) | (with_reducible refine evList_nil.trans ?_) | (with_reducible refine (br_true _ _).trans ?_) | (with_reducible refine (br_false _ _).trans ?_) | (with_reducible refine (br_pos (by assumption)).trans ?_) | (with_reducible refine (br_neg (by assumption)).trans ?_) | (with_reducible refine (bnd_call (f25 _ _ _ hl1 hl2 h0 h1)).trans ?_) | (with_reducible refine (navR_nil _ _ _).trans ?_) | (with_reducible refine (modR_nil _ _ _).trans ?_) | fail)
    conv => lhs; whnf
  · rw [if_neg hp]
    have e0 : decide (szP b s.ps < 0) = false := by simpa using hp
    by_cases hq : sz1 (szP b s.ps) s.qs.length < 0
    · rw [if_pos hq]
      have e0 : decide (sz1 (szP b s.ps) s.qs.length < 0) = true := by simpa using hq
      repeat' ((conv => lhs; whnf); first | (with_reducible refine evOps_cons.trans ?_) | (with_reducible refine evOps_nil.trans ?_) | (with_reducible refine ev_seq.trans ?_) | (with_reducible refine ev_region.trans ?_) | (with_reducible refine ev_cond.trans ?_) | (with_reducible refine ev_block.trans ?_) | (with_reducible refine ev_loop.trans ?_) | (with_reducible refine ev_exit.trans ?_) | (with_reducible refine ev_ret.trans ?_) | (with_reducible refine ev_skip.trans ?_) | (with_reducible refine ev_draw.trans ?_) | (with_reducible refine evList_cons.trans ?_) | (with_reducible refine evList_nil.trans ?_) | (with_reducible refine (br_true _ _).trans ?_) | (with_reducible refine (br_false _ _).trans ?_) | (with_reducible refine (br_pos (by assumption)).trans ?_) | (with_reducible refine (br_neg (by assumption)).trans ?_) | (with_reducible refine (bnd_call (f25 _ _ _ hl1 hl2 h0 h1)).trans ?_) | (with_reducible refine (bnd_call (f26 _ _ _ hl3 (by omega) (szP_le _ _ h1))).trans ?_) | (with_reducible refine (navR_nil _ _ _).trans ?_) | (with_reducible refine (modR_nil _ _ _).trans ?_) | fail)
      conv => lhs; whnf
    · rw [if_neg hq]
      have e0 : decide (sz1 (szP b s.ps) s.qs.length < 0) = false := by simpa using hq
      repeat' ((conv => lhs; whnf); first | (with_reducible refine evOps_cons.trans ?_) | (with_reducible refine evOps_nil.trans ?_) | (with_reducible refine ev_seq.trans ?_) | (with_reducible refine ev_region.trans ?_) | (with_reducible refine ev_cond.trans ?_) | (with_reducible refine ev_block.trans ?_) | (with_reducible refine ev_loop.trans ?_) | (with_reducible refine ev_exit.trans ?_) | (with_reducible refine ev_ret.trans ?_) | (with_reducible refine ev_skip.trans ?_) | (with_reducible refine ev_draw.trans ?_) | (with_reducible refine evList_cons.trans ?_) | (with_reducible refine evList_nil.trans ?_) | (with_reducible refine (br_true _ _).trans ?_) | (with_reducible refine (br_false _ _).trans ?_) | (with_reducible refine (br_pos (by assumption)).trans ?_) | (with_reducible refine (br_neg (by assumption)).trans ?_) | (with_reducible refine (bnd_call (f25 _ _ _ hl1 hl2 h0 h1)).trans ?_) | (with_reducible refine (bnd_call (f26 _ _ _ hl3 (by omega) (szP_le _ _ h1))).trans ?_) | (with_reducible refine (navR_nil _ _ _).trans ?_) | (with_reducible refine (modR_nil _ _ _).trans ?_) | fail)
      conv => lhs; whnf
theorem f14 (n : Nat) (s : Scr) (hs : s.room) : callP cfg (n+4) 14 [.agg (scrA s)] = some ⟨.agg (scrA s), []⟩ := by
  rw [callP_succ]
  obtain ⟨hl1, hl2, hl3⟩ := hs
  have h1 : s.ps.length * 24 ≤ 140737488355328 := by omega
  have h2 : ∀ l ∈ s.ps, l.length * 24 ≤ 140737488355328 := fun l hl => by have := hl2 l hl; omega
  have h3 : s.qs.length * 8 ≤ 140737488355328 := by omega
  repeat' ((conv => lhs; whnf); first | (with_reducible refine evOps_cons.trans ?_) | (with_reducible refine evOps_nil.trans ?_) | (with_reducible refine ev_seq.trans ?_) | (with_reducible refine ev_region.trans ?_) | (with_reducible refine ev_cond.trans ?_) | (with_reducible refine ev_block.trans ?_) | (with_reducible refine ev_loop.trans ?_) | (with_reducible refine ev_exit.trans ?_) | (with_reducible refine ev_ret.trans ?_) | (with_reducible refine ev_skip.trans ?_) | (with_reducible refine ev_draw.trans ?_) | (with_reducible refine evList_cons.trans ?_) | (with_reducible refine evList_nil.trans ?_) | (with_reducible refine (br_true _ _).trans ?_) | (with_reducible refine (br_false _ _).trans ?_) | (with_reducible refine (br_pos (by assumption)).trans ?_) | (with_reducible refine (br_neg (by assumption)).trans ?_) | (with_reducible refine (bnd_call (f10 _ _ _ _ _ _ _)).trans ?_) | (with_reducible refine (bnd_call (f28 _ _ h1 h2)).trans ?_) | (with_reducible refine (bnd_call (f29 _ _ h3)).trans ?_) | (with_reducible refine (navR_nil _ _ _).trans ?_) | (with_reducible refine (modR_nil _ _ _).trans ?_) | fail)
  conv => lhs; whnf
def sameCfg (s t : Scr) : Bool := decide (s.a = t.a ∧ s.b = t.b ∧ s.c = t.c ∧ s.d = t.d ∧ s.e = t.e ∧ s.f = t.f)
theorem f16 (n : Nat) (s t : Scr) (hs : s.len) : callP cfg (n+4) 16 [.agg (scrA s), .agg (scrA t)] = some ⟨.bool (decide (s = t)), []⟩ := by
  rw [callP_succ]
  obtain ⟨hl1, hl2, hl3⟩ := hs
  repeat' ((conv => lhs; whnf); first | (with_reducible refine evOps_cons.trans ?_) | (with_reducible refine evOps_nil.trans ?_) | (with_reducible refine ev_seq.trans ?_) | (with_reducible refine ev_region.trans ?_) | (with_reducible refine ev_cond.trans ?_) | (with_reducible refine ev_block.trans ?_) | (with_reducible refine ev_loop.trans ?_) | (with_reducible refine ev_exit.trans ?_) | (with_reducible refine ev_ret.trans ?_) | (with_reducible refine ev_skip.trans ?_) | (with_reducible refine ev_draw.trans ?_) | (with_reducible refine evList_cons.trans ?_) | (with_reducible refine evList_nil.trans ?_) | (with_reducible refine (br_true _ _).trans ?_) | (with_reducible refine (br_false _ _).trans ?_) | (with_reducible refine (br_pos (by assumption)).trans ?_) | (with_reducible refine (br_neg (by assumption)).trans ?_) | (with_reducible refine (bnd_call (f33 _ _ _ _ _ _ _ _ _ _ _ _ _)).trans ?_) | (with_reducible refine (bnd_call (f34 _ _ _ hl1 hl2)).trans ?_) | (with_reducible refine (bnd_call (f35 _ _ _ hl3)).trans ?_) | (with_reducible refine (navR_nil _ _ _).trans ?_) | (with_reducible refine (modR_nil _ _ _).trans ?_) | (refine br_if (fun _ => ?_) (fun _ => ?_)))
  
  all_goals (conv => lhs; whnf)
  all_goals (refine okB ?_; cases s; cases t; first | (simp_all; done) | grind)
def isProgsB (s : Scr) : Bool := isCfg s.a s.b s.c s.d s.e s.f && decide ((s.ps.length : Int) = s.a) && s.ps.all isProgB
def isScr (s : Scr) : Bool := isProgsB s && decide ((s.qs.length : Int) ≤ 400) && s.qs.all fun a => pick9 a
theorem f30 (n : Nat) (s : Scr) (hs : s.len) : callP cfg (n+7) 30 [.agg (cfgA s.a s.b s.c s.d s.e s.f), progsA s.ps] = some ⟨.bool (isProgsB s), []⟩ := by
  rw [callP_succ]
  obtain ⟨hl1, hl2, hl3⟩ := hs
  repeat' ((conv => lhs; whnf); first | (with_reducible refine evOps_cons.trans ?_) | (with_reducible refine evOps_nil.trans ?_) | (with_reducible refine ev_seq.trans ?_) | (with_reducible refine ev_region.trans ?_) | (with_reducible refine ev_cond.trans ?_) | (with_reducible refine ev_block.trans ?_) | (with_reducible refine ev_loop.trans ?_) | (with_reducible refine ev_exit.trans ?_) | (with_reducible refine ev_ret.trans ?_) | (with_reducible refine ev_skip.trans ?_) | (with_reducible refine ev_draw.trans ?_) | (with_reducible refine evList_cons.trans ?_) | (with_reducible refine evList_nil.trans ?_) | (with_reducible refine (br_true _ _).trans ?_) | (with_reducible refine (br_false _ _).trans ?_) | (with_reducible refine (br_pos (by assumption)).trans ?_) | (with_reducible refine (br_neg (by assumption)).trans ?_) | (with_reducible refine (bnd_call (f24 _ _ _ _ _ _ _)).trans ?_) | (with_reducible refine (bnd_call ((f45 _ _ hl1 hl2).trans (okB (any_not _ _)))).trans ?_) | (with_reducible refine (navR_nil _ _ _).trans ?_) | (with_reducible refine (modR_nil _ _ _).trans ?_) | (refine br_if (fun _ => ?_) (fun _ => ?_)))
  
  all_goals (conv => lhs; whnf)
  all_goals (refine okB ?_; unfold isProgsB; first | (simp_all; done) | grind)
theorem f15 (n : Nat) (s : Scr) (hs : s.len) : callP cfg (n+8) 15 [.agg (scrA s)] = some ⟨.bool (isScr s), []⟩ := by
  rw [callP_succ]
  have hl3 := hs.2.2
  repeat' ((conv => lhs; whnf); first | (with_reducible refine evOps_cons.trans ?_) | (with_reducible refine evOps_nil.trans ?_) | (with_reducible refine ev_seq.trans ?_) | (with_reducible refine ev_region.trans ?_) | (with_reducible refine ev_cond.trans ?_) | (with_reducible refine ev_block.trans ?_) | (with_reducible refine ev_loop.trans ?_) | (with_reducible refine ev_exit.trans ?_) | (with_reducible refine ev_ret.trans ?_) | (with_reducible refine ev_skip.trans ?_) | (with_reducible refine ev_draw.trans ?_) | (with_reducible refine evList_cons.trans ?_) | (with_reducible refine evList_nil.trans ?_) | (with_reducible refine (br_true _ _).trans ?_) | (with_reducible refine (br_false _ _).trans ?_) | (with_reducible refine (br_pos (by assumption)).trans ?_) | (with_reducible refine (br_neg (by assumption)).trans ?_) | (with_reducible refine (bnd_call (f30 _ s hs)).trans ?_) | (with_reducible refine (bnd_call ((f31 _ _ hl3).trans (okB (any_not _ _)))).trans ?_) | (with_reducible refine (navR_nil _ _ _).trans ?_) | (with_reducible refine (modR_nil _ _ _).trans ?_) | (refine br_if (fun _ => ?_) (fun _ => ?_)))
  
  all_goals (conv => lhs; whnf)
  all_goals (refine okB ?_; unfold isScr; first | (simp_all; done) | grind)
end Go.Proofs.Ytnhggokeblijpaa.A
namespace Go.Proofs.Ytnhggokeblijpaa.A
open Go Go.Abs
set_option maxRecDepth 100000
theorem f27p (n : Nat) (xs : List Op3) (hx : xs.length ≤ maxLen) : callP cfg (n+3) 27 [opsA xs] = some ⟨.bool (isProgB xs), []⟩ := f27 n xs hx
theorem f13 (n : Nat) (s : Scr) (hs : s.len) : callP cfg (n+4) 13 [.agg (scrA s)] = some ⟨.bool (isScr s), []⟩ := by
  rw [callP_succ]
  obtain ⟨hl1, hl2, hl3⟩ := hs
  unfold maxLen at hl1 hl3
  unfold isScr isProgsB
  by_cases hc : isCfg s.a s.b s.c s.d s.e s.f = true
  · have e0 : (!isCfg s.a s.b s.c s.d s.e s.f) = false := by rw [hc]; rfl
    by_cases hl : (s.ps.length : Int) = s.a
    · have e1 : (((s.ps.map progA).length : Int) != s.a) = false := by rw [List.length_map]; exact bne_f hl
      by_cases hq : (s.qs.length : Int) ≤ 400
      · have e2 : decide (400 < ((s.qs.map iA).length : Int)) = false := by rw [List.length_map]; exact decide_eq_false (by omega)
        have hR : (isCfg s.a s.b s.c s.d s.e s.f && decide ((s.ps.length : Int) = s.a) && s.ps.all isProgB && decide ((s.qs.length : Int) ≤ 400) && s.qs.all fun a => pick9 a) = (s.ps.all isProgB && s.qs.all fun a => pick9 a) := by simp [hc, hl, hq]
        rw [hR]
        repeat' ((conv => lhs; whnf); first | (with_reducible refine evOps_cons.trans ?_) | (with_reducible refine evOps_nil.trans ?_) | (with_reducible refine ev_seq.trans ?_) | (with_reducible refine ev_region.trans ?_) | (with_reducible refine ev_cond.trans ?_) | (with_reducible refine ev_block.trans ?_) | (with_reducible refine ev_loop.trans ?_) | (with_reducible refine ev_exit.trans ?_) | (with_reducible refine ev_ret.trans ?_) | (with_reducible refine ev_skip.trans ?_) | (with_reducible refine ev_draw.trans ?_) | (with_reducible refine evList_cons.trans ?_) | (with_reducible refine evList_nil.trans ?_) | (with_reducible refine (br_true _ _).trans ?_) | (with_reducible refine (br_false _ _).trans ?_) | (with_reducible refine (br_pos (by assumption)).trans ?_) | (with_reducible refine (br_neg (by assumption)).trans ?_) | (with_reducible refine (bnd_call (f23 _ _ _ _ _ _ _)).trans ?_) | (with_reducible refine (navR_nil _ _ _).trans ?_) | (with_reducible refine (modR_nil _ _ _).trans ?_) | fail)
        
        refine (evLoop_run (fun e k => e.set 3 (.int .i64 (k : Int))) (fun h _ => h) (fun k => some ⟨.bool ((s.ps.drop k).all isProgB && s.qs.all fun a => pick9 a), []⟩) s.ps.length (by show _ < 18446744073709551616; omega) rfl ?_).trans (by simp)
        intro k f hk IH
        by_cases hlt : k < s.ps.length
        · have e1 := lt_map (f := progA) hlt
          have e2 := nonneg k
          have r1 := map_get (f := progA) hlt
          have hw := wrapS (k := k) (by omega)
          have hm := hl2 _ (getD_mem hlt)
          by_cases hv : isProgB (s.ps.getD k default) = true
          · have e4 : (!isProgB (s.ps.getD k default)) = false := by rw [hv]; rfl
            repeat' ((conv => lhs; whnf); first | (with_reducible refine evOps_cons.trans ?_) | (with_reducible refine evOps_nil.trans ?_) | (with_reducible refine ev_seq.trans ?_) | (with_reducible refine ev_region.trans ?_) | (with_reducible refine ev_cond.trans ?_) | (with_reducible refine ev_block.trans ?_) | (with_reducible refine ev_loop.trans ?_) | (with_reducible refine ev_exit.trans ?_) | (with_reducible refine ev_ret.trans ?_) | (with_reducible refine ev_skip.trans ?_) | (with_reducible refine ev_draw.trans ?_) | (with_reducible refine evList_cons.trans ?_) | (with_reducible refine evList_nil.trans ?_) | (with_reducible refine (br_true _ _).trans ?_) | (with_reducible refine (br_false _ _).trans ?_) | (with_reducible refine (br_pos (by assumption)).trans ?_) | (with_reducible refine (br_neg (by assumption)).trans ?_) | (refine (getRow_eq r1).trans ?_) | (with_reducible refine (navR_atT r1 (by with_unfolding_all rfl)).trans ?_) | (with_reducible refine (modR_atT r1 (by with_unfolding_all rfl)).trans ?_) | (with_reducible refine (bnd_call (f27p _ _ hm)).trans ?_) | (with_reducible refine (navR_nil _ _ _).trans ?_) | (with_reducible refine (modR_nil _ _ _).trans ?_) | fail)
            conv => lhs; whnf
            refine (IH hlt _ _ (by rw [hw]; rfl) rfl).trans ?_
            rw [drop_cons hlt, List.all_cons, hv, Bool.true_and]
          · have hv' : isProgB (s.ps.getD k default) = false := by simpa using hv
            have e4 : (!isProgB (s.ps.getD k default)) = true := by rw [hv']; rfl
            repeat' ((conv => lhs; whnf); first | (with_reducible refine evOps_cons.trans ?_) | (with_reducible refine evOps_nil.trans ?_) | (with_reducible refine ev_seq.trans ?_) | (with_reducible refine ev_region.trans ?_) | (with_reducible refine ev_cond.trans ?_) | (with_reducible refine ev_block.trans ?_) | (with_reducible refine ev_loop.trans ?_) | (with_reducible refine ev_exit.trans ?_) | (with_reducible refine ev_ret.trans ?_) | (with_reducible refine ev_skip.trans ?_) | (with_reducible refine ev_draw.trans ?_) | (with_reducible refine evList_cons.trans ?_) | (with_reducible refine evList_nil.trans ?_) | (with_reducible refine (br_true _ _).trans ?_) | (with_reducible refine (br_false _ _).trans ?_) | (with_reducible refine (br_pos (by assumption)).trans ?_) | (with_reducible refine (br_neg (by assumption)).trans ?_) | (refine (getRow_eq r1).trans ?_) | (with_reducible refine (navR_atT r1 (by with_unfolding_all rfl)).trans ?_) | (with_reducible refine (modR_atT r1 (by with_unfolding_all rfl)).trans ?_) | (with_reducible refine (bnd_call (f27p _ _ hm)).trans ?_) | (with_reducible refine (navR_nil _ _ _).trans ?_) | (with_reducible refine (modR_nil _ _ _).trans ?_) | fail)
            conv => lhs; whnf
            rw [drop_cons hlt, List.all_cons, hv']; rfl
        · have e1 := nlt_map (f := progA) (Nat.le_of_not_lt hlt)
          rw [List.drop_eq_nil_of_le (by omega), List.all_nil, Bool.true_and]
          repeat' ((conv => lhs; whnf); first | (with_reducible refine evOps_cons.trans ?_) | (with_reducible refine evOps_nil.trans ?_) | (with_reducible refine ev_seq.trans ?_) | (with_reducible refine ev_region.trans ?_) | (with_reducible refine ev_cond.trans ?_) | (with_reducible refine ev_block.trans ?_) | (with_reducible refine ev_loop.trans ?_) | (with_reducible refine ev_exit.trans ?_) | (with_reducible refine ev_ret.trans ?_) | (with_reducible refine ev_skip.trans ?_) | (with_reducible refine ev_draw.trans ?_) | (with_reducible refine evList_cons.trans ?_) | (with_reducible refine evList_nil.trans ?_) | (with_reducible refine (br_true _ _).trans ?_) | (with_reducible refine (br_false _ _).trans ?_) | (with_reducible refine (br_pos (by assumption)).trans ?_) | (with_reducible refine (br_neg (by assumption)).trans ?_) | (with_reducible refine (navR_nil _ _ _).trans ?_) | (with_reducible refine (modR_nil _ _ _).trans ?_) | fail)
          
          refine (evLoop_run (fun e k => e.set 4 (.int .i64 (k : Int))) (fun h _ => h) (fun k => some ⟨.bool ((s.qs.drop k).all fun a => pick9 a), []⟩) s.qs.length (by show _ < 18446744073709551616; omega) rfl ?_).trans rfl
          intro k f hk IH
          by_cases hlt : k < s.qs.length
          · have e1 := lt_map (f := iA) hlt
            have e2 := nonneg k
            have r1 := map_get (f := iA) hlt
            have hw := wrapS (k := k) (by omega)
            by_cases hv : pick9 (s.qs.getD k default) = true
            · have e4 : (!pick9 (s.qs.getD k default)) = false := by rw [hv]; rfl
              repeat' ((conv => lhs; whnf); first | (with_reducible refine evOps_cons.trans ?_) | (with_reducible refine evOps_nil.trans ?_) | (with_reducible refine ev_seq.trans ?_) | (with_reducible refine ev_region.trans ?_) | (with_reducible refine ev_cond.trans ?_) | (with_reducible refine ev_block.trans ?_) | (with_reducible refine ev_loop.trans ?_) | (with_reducible refine ev_exit.trans ?_) | (with_reducible refine ev_ret.trans ?_) | (with_reducible refine ev_skip.trans ?_) | (with_reducible refine ev_draw.trans ?_) | (with_reducible refine evList_cons.trans ?_) | (with_reducible refine evList_nil.trans ?_) | (with_reducible refine (br_true _ _).trans ?_) | (with_reducible refine (br_false _ _).trans ?_) | (with_reducible refine (br_pos (by assumption)).trans ?_) | (with_reducible refine (br_neg (by assumption)).trans ?_) | (refine (getRow_eq r1).trans ?_) | (with_reducible refine (navR_atT r1 (by with_unfolding_all rfl)).trans ?_) | (with_reducible refine (modR_atT r1 (by with_unfolding_all rfl)).trans ?_) | (with_reducible refine (bnd_call (f21 _ _ _ _)).trans ?_) | (with_reducible refine (navR_nil _ _ _).trans ?_) | (with_reducible refine (modR_nil _ _ _).trans ?_) | fail)
              conv => lhs; whnf
              refine (IH hlt _ _ (by rw [hw]; rfl) rfl).trans ?_
              rw [drop_cons hlt, List.all_cons, hv, Bool.true_and]
            · have hv' : pick9 (s.qs.getD k default) = false := by simpa using hv
              have e4 : (!pick9 (s.qs.getD k default)) = true := by rw [hv']; rfl
              repeat' ((conv => lhs; whnf); first | (with_reducible refine evOps_cons.trans ?_) | (with_reducible refine evOps_nil.trans ?_) | (with_reducible refine ev_seq.trans ?_) | (with_reducible refine ev_region.trans ?_) | (with_reducible refine ev_cond.trans ?_) | (with_reducible refine ev_block.trans ?_) | (with_reducible refine ev_loop.trans ?_) | (with_reducible refine ev_exit.trans ?_) | (with_reducible refine ev_ret.trans ?_) | (with_reducible refine ev_skip.trans ?_) | (with_reducible refine ev_draw.trans ?_) | (with_reducible refine evList_cons.trans ?_) | (with_reducible refine evList_nil.trans ?_) | (with_reducible refine (br_true _ _).trans ?_) | (with_reducible refine (br_false _ _).trans ?_) | (with_reducible refine (br_pos (by assumption)).trans ?_) | (with_reducible refine (br_neg (by assumption)).trans ?_) | (refine (getRow_eq r1).trans ?_) | (with_reducible refine (navR_atT r1 (by with_unfolding_all rfl)).trans ?_) | (with_reducible refine (modR_atT r1 (by with_unfolding_all rfl)).trans ?_) | (with_reducible refine (bnd_call (f21 _ _ _ _)).trans ?_) | (with_reducible refine (navR_nil _ _ _).trans ?_) | (with_reducible refine (modR_nil _ _ _).trans ?_) | fail)
              conv => lhs; whnf
              rw [drop_cons hlt, List.all_cons, hv']; rfl
          · have e1 := nlt_map (f := iA) (Nat.le_of_not_lt hlt)
            rw [List.drop_eq_nil_of_le (by omega), List.all_nil]
            repeat' ((conv => lhs; whnf); first | (with_reducible refine evOps_cons.trans ?_) | (with_reducible refine evOps_nil.trans ?_) | (with_reducible refine ev_seq.trans ?_) | (with_reducible refine ev_region.trans ?_) | (with_reducible refine ev_cond.trans ?_) | (with_reducible refine ev_block.trans ?_) | (with_reducible refine ev_loop.trans ?_) | (with_reducible refine ev_exit.trans ?_) | (with_reducible refine ev_ret.trans ?_) | (with_reducible refine ev_skip.trans ?_) | (with_reducible refine ev_draw.trans ?_) | (with_reducible refine evList_cons.trans ?_) | (with_reducible refine evList_nil.trans ?_) | (with_reducible refine (br_true _ _).trans ?_) | (with_reducible refine (br_false _ _).trans ?_) | (with_reducible refine (br_pos (by assumption)).trans ?_) | (with_reducible refine (br_neg (by assumption)).trans ?_) | (with_reducible refine (navR_nil _ _ _).trans ?_) | (with_reducible refine (modR_nil _ _ _).trans ?_) | fail)
            conv => lhs; whnf
      · have e2 : decide (400 < ((s.qs.map iA).length : Int)) = true := by rw [List.length_map]; exact decide_eq_true (by omega)
        repeat' ((conv => lhs; whnf); first | (with_reducible refine evOps_cons.trans ?_) | (with_reducible refine evOps_nil.trans ?_) | (with_reducible refine ev_seq.trans ?_) | (with_reducible refine ev_region.trans ?_) | (with_reducible refine ev_cond.trans ?_) | (with_reducible refine ev_block.trans ?_) | (with_reducible refine ev_loop.trans ?_) | (with_reducible refine ev_exit.trans ?_) | (with_reducible refine ev_ret.trans ?_) | (with_reducible refine ev_skip.trans ?_) | (with_reducible refine ev_draw.trans ?_) | (with_reducible refine evList_cons.trans ?_) | (with_reducible refine evList_nil.trans ?_) | (with_reducible refine (br_true _ _).trans ?_) | (with_reducible refine (br_false _ _).trans ?_) | (with_reducible refine (br_pos (by assumption)).trans ?_) | (with_reducible refine (br_neg (by assumption)).trans ?_) | (with_reducible refine (bnd_call (f23 _ _ _ _ _ _ _)).trans ?_) | (with_reducible refine (navR_nil _ _ _).trans ?_) | (with_reducible refine (modR_nil _ _ _).trans ?_) | fail)
        conv => lhs; whnf
        simp [hq]
    · have e1 : (((s.ps.map progA).length : Int) != s.a) = true := by rw [List.length_map]; exact bne_t hl
      repeat' ((conv => lhs; whnf); first | (with_reducible refine evOps_cons.trans ?_) | (with_reducible refine evOps_nil.trans ?_) | (with_reducible refine ev_seq.trans ?_) | (with_reducible refine ev_region.trans ?_) | (with_reducible refine ev_cond.trans ?_) | (with_reducible refine ev_block.trans ?_) | (with_reducible refine ev_loop.trans ?_) | (with_reducible refine ev_exit.trans ?_) | (with_reducible refine ev_ret.trans ?_) | (with_reducible refine ev_skip.trans ?_) | (with_reducible refine ev_draw.trans ?_) | (with_reducible refine evList_cons.trans ?_) | (with_reducible refine evList_nil.trans ?_) | (with_reducible refine (br_true _ _).trans ?_) | (with_reducible refine (br_false _ _).trans ?_) | (with_reducible refine (br_pos (by assumption)).trans ?_) | (with_reducible refine (br_neg (by assumption)).trans ?_) | (with_reducible refine (bnd_call (f23 _ _ _ _ _ _ _)).trans ?_) | (with_reducible refine (navR_nil _ _ _).trans ?_) | (with_reducible refine (modR_nil _ _ _).trans ?_) | fail)
      conv => lhs; whnf
      simp [hl]
  · have hc' : isCfg s.a s.b s.c s.d s.e s.f = false := by simpa using hc
    have e0 : (!isCfg s.a s.b s.c s.d s.e s.f) = true := by rw [hc']; rfl
    repeat' ((conv => lhs; whnf); first | (with_reducible refine evOps_cons.trans ?_) | (with_reducible refine evOps_nil.trans ?_) | (with_reducible refine ev_seq.trans ?_) | (with_reducible refine ev_region.trans ?_) | (with_reducible refine ev_cond.trans ?_) | (with_reducible refine ev_block.trans ?_) | (with_reducible refine ev_loop.trans ?_) | (with_reducible refine ev_exit.trans ?_) | (with_reducible refine ev_ret.trans ?_) | (with_reducible refine ev_skip.trans ?_) | (with_reducible refine ev_draw.trans ?_) | (with_reducible refine evList_cons.trans ?_) | (with_reducible refine evList_nil.trans ?_) | (with_reducible refine (br_true _ _).trans ?_) | (with_reducible refine (br_false _ _).trans ?_) | (with_reducible refine (br_pos (by assumption)).trans ?_) | (with_reducible refine (br_neg (by assumption)).trans ?_) | (with_reducible refine (bnd_call (f23 _ _ _ _ _ _ _)).trans ?_) | (with_reducible refine (navR_nil _ _ _).trans ?_) | (with_reducible refine (modR_nil _ _ _).trans ?_) | fail)
    conv => lhs; whnf
    simp [hc']
theorem f5 (n : Nat) (s : Scr) (hs : s.len) : callP cfg (n+9) 5 [.agg (scrA s)] = some ⟨.bool true, []⟩ := by
  rw [callP_succ]
  by_cases hb : szScr s 1048576 < 0
  · have e0 : decide (szScr s 1048576 < 0) = true := by simpa using hb
    repeat' ((conv => lhs; whnf); first | (with_reducible refine evOps_cons.trans ?_) | (with_reducible refine evOps_nil.trans ?_) | (with_reducible refine ev_seq.trans ?_) | (with_reducible refine ev_region.trans ?_) | (with_reducible refine ev_cond.trans ?_) | (with_reducible refine ev_block.trans ?_) | (with_reducible refine ev_loop.trans ?_) | (with_reducible refine ev_exit.trans ?_) | (with_reducible refine ev_ret.trans ?_) | (with_reducible refine ev_skip.trans ?_) | (with_reducible refine ev_draw.trans ?_) | (with_reducible refine evList_cons.trans ?_) | (with_reducible refine evList_nil.trans ?_) | (with_reducible refine (br_true _ _).trans ?_) | (with_reducible refine (br_false _ _).trans ?_) | (with_reducible refine (br_pos (by assumption)).trans ?_) | (with_reducible refine (br_neg (by assumption)).trans ?_) | (with_reducible refine (bnd_call (f12 _ s hs _ (by decide) (by decide))).trans ?_) | (with_reducible refine (navR_nil _ _ _).trans ?_) | (with_reducible refine (modR_nil _ _ _).trans ?_) | fail)
    conv => lhs; whnf
  · have e0 : decide (szScr s 1048576 < 0) = false := by simpa using hb
    have hr := szScr_room s (by omega)
    have e1 : (!isScr s == isScr s) = false := by simp
    have e2 : (!decide (s = s)) = false := by simp
    repeat' ((conv => lhs; whnf) <;> first | (with_reducible refine (addE_cons _ _ _ _ _ _).trans ?_) | (with_reducible refine (expOps_cons _ _ _ _ _ _ _ _ _ _ _).trans ?_) | (with_reducible apply bndS_step) | (with_reducible refine (eqS_self _ _).trans ?_) | (with_reducible refine (addE_nil _ _ _).trans ?_) | (with_reducible refine (expOps_nil _ _ _ _ _ _ _ _ _).trans ?_) | (with_reducible refine (expLvl_cons _ _ _ _ _ _ _ _ _).trans ?_) | (with_reducible refine (expLvl_nil _ _ _ _ _ _).trans ?_) | (with_reducible refine (evDag_cons _ _ _ _ _ _ _ _).trans ?_) | (with_reducible refine (evDag_nil _ _ _ _ _ _).trans ?_) | (with_reducible refine evOps_cons.trans ?_) | (with_reducible refine evOps_nil.trans ?_) | (with_reducible refine ev_seq.trans ?_) | (with_reducible refine ev_region.trans ?_) | (with_reducible refine ev_cond.trans ?_) | (with_reducible refine ev_block.trans ?_) | (with_reducible refine ev_loop.trans ?_) | (with_reducible refine ev_exit.trans ?_) | (with_reducible refine ev_ret.trans ?_) | (with_reducible refine ev_skip.trans ?_) | (with_reducible refine ev_draw.trans ?_) | (with_reducible refine evList_cons.trans ?_) | (with_reducible refine evList_nil.trans ?_) | (with_reducible refine (br_true _ _).trans ?_) | (with_reducible refine (br_false _ _).trans ?_) | (with_reducible refine (br_pos (by assumption)).trans ?_) | (with_reducible refine (br_neg (by assumption)).trans ?_) | (with_reducible refine (bnd_call (f12 _ s hs _ (by decide) (by decide))).trans ?_) | (with_reducible refine (bnd_call (f14 _ s hr)).trans ?_) | (with_reducible refine (bnd_call (f13 _ s hs)).trans ?_) | (with_reducible refine (bnd_call (f15 _ s hs)).trans ?_) | (with_reducible refine (bnd_call (f16 _ s s hs)).trans ?_) | (with_reducible refine (navR_nil _ _ _).trans ?_) | (with_reducible refine (modR_nil _ _ _).trans ?_) | fail)

    all_goals (conv => lhs; whnf)
end Go.Proofs.Ytnhggokeblijpaa.A
namespace Go.Proofs.Ytnhggokeblijpaa.A
open Go Go.Abs
theorem rows_map {α : Type} {f : α → List AV} {Q : α → Prop} : ∀ {rows : List (List AV)}, (∀ row ∈ rows, ∃ x, row = f x ∧ Q x) → ∃ xs : List α, rows = xs.map f ∧ ∀ x ∈ xs, Q x
  | [], _ => ⟨[], rfl, fun x h => by cases h⟩
  | row :: rows, h => by
    obtain ⟨x, hx, hQ⟩ := h row (List.mem_cons_self ..)
    obtain ⟨xs, hxs, hQs⟩ := rows_map (rows := rows) fun r hr => h r (List.mem_cons_of_mem _ hr)
    refine ⟨x :: xs, by rw [hx, hxs]; rfl, fun y hy => ?_⟩
    rcases List.mem_cons.1 hy with rfl | hy
    · exact hQ
    · exact hQs y hy
theorem tyOp {n : Nat} {avs : List AV} (h : Ty tys (n+2) 73 avs) : ∃ o : Op3, avs = opA o ∧ True := by
  obtain ⟨_, _, rfl, ⟨a, rfl, _⟩, _, _, rfl, ⟨b, rfl, _⟩, _, _, rfl, ⟨c, rfl, _⟩, rfl⟩ := h
  exact ⟨⟨a, b, c⟩, rfl, trivial⟩
theorem tyInt {n : Nat} {avs : List AV} (h : Ty tys (n+1) 3 avs) : ∃ i : Int, avs = iA i ∧ True := by
  obtain ⟨a, rfl, _⟩ := h
  exact ⟨a, rfl, trivial⟩
theorem tyInts {n : Nat} {avs : List AV} (h : Ty tys (n+2) 31 avs) : ∃ xs : List Int, avs = [intsA xs] ∧ xs.length ≤ maxLen := by
  obtain ⟨rows, rfl, hl, hr⟩ := h
  obtain ⟨xs, rfl, _⟩ := rows_map fun row hrow => tyInt (hr row hrow)
  exact ⟨xs, rfl, by simpa using hl⟩
theorem tyProg {n : Nat} {avs : List AV} (h : Ty tys (n+3) 62 avs) : ∃ xs : List Op3, avs = progA xs ∧ xs.length ≤ maxLen := by
  obtain ⟨rows, rfl, hl, hr⟩ := h
  obtain ⟨xs, rfl, _⟩ := rows_map fun row hrow => tyOp (hr row hrow)
  exact ⟨xs, rfl, by simpa using hl⟩
theorem tyProgs {n : Nat} {avs : List AV} (h : Ty tys (n+4) 30 avs) : ∃ xs : List (List Op3), avs = [progsA xs] ∧ xs.length ≤ maxLen ∧ ∀ l ∈ xs, l.length ≤ maxLen := by
  obtain ⟨rows, rfl, hl, hr⟩ := h
  obtain ⟨xs, rfl, hQ⟩ := rows_map fun row hrow => tyProg (hr row hrow)
  exact ⟨xs, rfl, by simpa using hl, hQ⟩
theorem tyC {n : Nat} {avs : List AV} (h : Ty tys (n+2) 25 avs) : ∃ a b c d e f : Int, avs = cfgA a b c d e f := by
  obtain ⟨_, _, rfl, ⟨a, rfl, _⟩, _, _, rfl, ⟨b, rfl, _⟩, _, _, rfl, ⟨c, rfl, _⟩, _, _, rfl, ⟨d, rfl, _⟩, _, _, rfl, ⟨e, rfl, _⟩, _, _, rfl, ⟨f, rfl, _⟩, rfl⟩ := h
  exact ⟨a, b, c, d, e, f, rfl⟩
theorem tyS {n : Nat} {avs : List AV} (h : Ty tys (n+5) 33 avs) : ∃ s : Scr, avs = scrA s ∧ s.len := by
  obtain ⟨_, _, rfl, h1, _, _, rfl, h2, _, _, rfl, h3, rfl⟩ := h
  obtain ⟨a, b, c, d, e, f, rfl⟩ := tyC h1
  obtain ⟨ps, rfl, hp, hps⟩ := tyProgs h2
  obtain ⟨qs, rfl, hq⟩ := tyInts h3
  exact ⟨⟨a, b, c, d, e, f, ps, qs⟩, rfl, hp, hps, hq⟩
end Go.Proofs.Ytnhggokeblijpaa.A
namespace Go.Proofs.Ytnhggokeblijpaa.A
open Go Go.Abs
set_option maxRecDepth 100000
theorem leafRows_map {α : Type} {f : α → List AV} {xs : List α} (h : ∀ x, leafy (f x) = true) : leafRows (xs.map f) = true := by
  unfold leafRows
  rw [List.all_map]
  exact List.all_eq_true.2 fun x _ => h x
theorem take_snoc {α : Type} [Inhabited α] {f : α → List AV} {xs : List α} {k : Nat} (h : k < xs.length) : (xs.take k).map f ++ [f (xs.getD k default)] = (xs.take (k + 1)).map f := by
  have hv : xs.getD k default = xs[k] := by simp [List.getD_eq_getElem?_getD, h]
  rw [List.take_succ_eq_append_getElem h, hv, List.map_append]; rfl
theorem f37 (n : Nat) (xs : List Int) (hx : xs.length * 8 ≤ 140737488355328) : callP cfg (n+1) 37 [intsA xs] = some ⟨intsA xs, []⟩ := by
  rw [callP_succ]
  have e2 : leafRows (xs.map iA) = true := leafRows_map fun x => rfl
  have e3 : decide ((([] : List (List AV)).length + (xs.map iA).length) * 8 ≤ roomB) = true := decide_eq_true (by simp only [List.length_nil, Nat.zero_add, List.length_map]; exact hx)
  by_cases h0 : xs = []
  · subst h0
    repeat' ((conv => lhs; whnf); first | (with_reducible refine evOps_cons.trans ?_) | (with_reducible refine evOps_nil.trans ?_) | (with_reducible refine ev_seq.trans ?_) | (with_reducible refine ev_region.trans ?_) | (with_reducible refine ev_cond.trans ?_) | (with_reducible refine ev_block.trans ?_) | (with_reducible refine ev_loop.trans ?_) | (with_reducible refine ev_exit.trans ?_) | (with_reducible refine ev_ret.trans ?_) | (with_reducible refine ev_skip.trans ?_) | (with_reducible refine ev_draw.trans ?_) | (with_reducible refine evList_cons.trans ?_) | (with_reducible refine evList_nil.trans ?_) | (with_reducible refine (br_true _ _).trans ?_) | (with_reducible refine (br_false _ _).trans ?_) | (with_reducible refine (br_pos (by assumption)).trans ?_) | (with_reducible refine (br_neg (by assumption)).trans ?_) | (refine both_eq ?_ ?_) | (refine (br_pos (by rfl)).trans ?_) | (with_reducible refine (navR_nil _ _ _).trans ?_) | (with_reducible refine (modR_nil _ _ _).trans ?_) | fail)
    
    all_goals (conv => lhs; whnf)
    all_goals rfl
  · have e1 : decide ((xs.map iA).length = 0) = false := decide_eq_false (by simpa using h0)
    repeat' ((conv => lhs; whnf); first | (with_reducible refine evOps_cons.trans ?_) | (with_reducible refine evOps_nil.trans ?_) | (with_reducible refine ev_seq.trans ?_) | (with_reducible refine ev_region.trans ?_) | (with_reducible refine ev_cond.trans ?_) | (with_reducible refine ev_block.trans ?_) | (with_reducible refine ev_loop.trans ?_) | (with_reducible refine ev_exit.trans ?_) | (with_reducible refine ev_ret.trans ?_) | (with_reducible refine ev_skip.trans ?_) | (with_reducible refine ev_draw.trans ?_) | (with_reducible refine evList_cons.trans ?_) | (with_reducible refine evList_nil.trans ?_) | (with_reducible refine (br_true _ _).trans ?_) | (with_reducible refine (br_false _ _).trans ?_) | (with_reducible refine (br_pos (by assumption)).trans ?_) | (with_reducible refine (br_neg (by assumption)).trans ?_) | (refine (br_pos (by rfl)).trans ?_) | (refine (br_pos e3).trans ?_) | (with_reducible refine (navR_nil _ _ _).trans ?_) | (with_reducible refine (modR_nil _ _ _).trans ?_) | fail)
    conv => lhs; whnf
    rfl
theorem f50 (n : Nat) (xs : List Op3) (hx : xs.length * 24 ≤ 140737488355328) : callP cfg (n+1) 50 [opsA xs] = some ⟨opsA xs, []⟩ := by
  rw [callP_succ]
  have e2 : leafRows (xs.map opA) = true := leafRows_map fun x => rfl
  have e3 : decide ((([] : List (List AV)).length + (xs.map opA).length) * 24 ≤ roomB) = true := decide_eq_true (by simp only [List.length_nil, Nat.zero_add, List.length_map]; exact hx)
  by_cases h0 : xs = []
  · subst h0
    repeat' ((conv => lhs; whnf); first | (with_reducible refine evOps_cons.trans ?_) | (with_reducible refine evOps_nil.trans ?_) | (with_reducible refine ev_seq.trans ?_) | (with_reducible refine ev_region.trans ?_) | (with_reducible refine ev_cond.trans ?_) | (with_reducible refine ev_block.trans ?_) | (with_reducible refine ev_loop.trans ?_) | (with_reducible refine ev_exit.trans ?_) | (with_reducible refine ev_ret.trans ?_) | (with_reducible refine ev_skip.trans ?_) | (with_reducible refine ev_draw.trans ?_) | (with_reducible refine evList_cons.trans ?_) | (with_reducible refine evList_nil.trans ?_) | (with_reducible refine (br_true _ _).trans ?_) | (with_reducible refine (br_false _ _).trans ?_) | (with_reducible refine (br_pos (by assumption)).trans ?_) | (with_reducible refine (br_neg (by assumption)).trans ?_) | (refine both_eq ?_ ?_) | (refine (br_pos (by rfl)).trans ?_) | (with_reducible refine (navR_nil _ _ _).trans ?_) | (with_reducible refine (modR_nil _ _ _).trans ?_) | fail)
    
    all_goals (conv => lhs; whnf)
    all_goals rfl
  · have e1 : decide ((xs.map opA).length = 0) = false := decide_eq_false (by simpa using h0)
    repeat' ((conv => lhs; whnf); first | (with_reducible refine evOps_cons.trans ?_) | (with_reducible refine evOps_nil.trans ?_) | (with_reducible refine ev_seq.trans ?_) | (with_reducible refine ev_region.trans ?_) | (with_reducible refine ev_cond.trans ?_) | (with_reducible refine ev_block.trans ?_) | (with_reducible refine ev_loop.trans ?_) | (with_reducible refine ev_exit.trans ?_) | (with_reducible refine ev_ret.trans ?_) | (with_reducible refine ev_skip.trans ?_) | (with_reducible refine ev_draw.trans ?_) | (with_reducible refine evList_cons.trans ?_) | (with_reducible refine evList_nil.trans ?_) | (with_reducible refine (br_true _ _).trans ?_) | (with_reducible refine (br_false _ _).trans ?_) | (with_reducible refine (br_pos (by assumption)).trans ?_) | (with_reducible refine (br_neg (by assumption)).trans ?_) | (refine (br_pos (by rfl)).trans ?_) | (refine (br_pos e3).trans ?_) | (with_reducible refine (navR_nil _ _ _).trans ?_) | (with_reducible refine (modR_nil _ _ _).trans ?_) | fail)
    conv => lhs; whnf
    rfl
theorem f36 (n : Nat) (xs : List (List Op3)) (hx : xs.length * 24 ≤ 140737488355328) (hxs : ∀ l ∈ xs, l.length * 24 ≤ 140737488355328) : callP cfg (n+2) 36 [progsA xs] = some ⟨progsA xs, []⟩ := by
  rw [callP_succ]
  repeat' ((conv => lhs; whnf); first | (with_reducible refine evOps_cons.trans ?_) | (with_reducible refine evOps_nil.trans ?_) | (with_reducible refine ev_seq.trans ?_) | (with_reducible refine ev_region.trans ?_) | (with_reducible refine ev_cond.trans ?_) | (with_reducible refine ev_block.trans ?_) | (with_reducible refine ev_loop.trans ?_) | (with_reducible refine ev_exit.trans ?_) | (with_reducible refine ev_ret.trans ?_) | (with_reducible refine ev_skip.trans ?_) | (with_reducible refine ev_draw.trans ?_) | (with_reducible refine evList_cons.trans ?_) | (with_reducible refine evList_nil.trans ?_) | (with_reducible refine (br_true _ _).trans ?_) | (with_reducible refine (br_false _ _).trans ?_) | (with_reducible refine (br_pos (by assumption)).trans ?_) | (with_reducible refine (br_neg (by assumption)).trans ?_) | (refine (br_pos (by rfl)).trans ?_) | (with_reducible refine (navR_nil _ _ _).trans ?_) | (with_reducible refine (modR_nil _ _ _).trans ?_) | fail)
  
  refine (evLoop_run (fun e k => e.set 9 (.int .i64 (k : Int))) (fun h k => h.set 2 (some ⟨false, false, false, 1, (xs.take k).map progA⟩)) (fun k => some ⟨progsA xs, []⟩) xs.length (by show _ < 18446744073709551616; omega) rfl ?_).trans rfl
  intro k f hk IH
  by_cases hlt : k < xs.length
  · have e1 := lt_map (f := progA) hlt
    have e2 := nonneg k
    have r1 := map_get (f := progA) hlt
    have hw := wrapS (k := k) (by omega)
    have hm := hxs _ (getD_mem hlt)
    have e3 : decide ((((xs.take k).map progA).length + 1) * 24 ≤ roomB) = true := decide_eq_true (by
      have : ((xs.take k).map progA).length = k := by rw [List.length_map, List.length_take]; omega
      rw [this]; show _ ≤ 140737488355328; omega)
    repeat' ((conv => lhs; whnf); first | (with_reducible refine evOps_cons.trans ?_) | (with_reducible refine evOps_nil.trans ?_) | (with_reducible refine ev_seq.trans ?_) | (with_reducible refine ev_region.trans ?_) | (with_reducible refine ev_cond.trans ?_) | (with_reducible refine ev_block.trans ?_) | (with_reducible refine ev_loop.trans ?_) | (with_reducible refine ev_exit.trans ?_) | (with_reducible refine ev_ret.trans ?_) | (with_reducible refine ev_skip.trans ?_) | (with_reducible refine ev_draw.trans ?_) | (with_reducible refine evList_cons.trans ?_) | (with_reducible refine evList_nil.trans ?_) | (with_reducible refine (br_true _ _).trans ?_) | (with_reducible refine (br_false _ _).trans ?_) | (with_reducible refine (br_pos (by assumption)).trans ?_) | (with_reducible refine (br_neg (by assumption)).trans ?_) | (refine (getRow_eq r1).trans ?_) | (with_reducible refine (navR_atT r1 (by with_unfolding_all rfl)).trans ?_) | (with_reducible refine (modR_atT r1 (by with_unfolding_all rfl)).trans ?_) | (with_reducible refine (bnd_call (f50 _ _ hm)).trans ?_) | (refine (br_pos (by rfl)).trans ?_) | (refine (br_pos e3).trans ?_) | (with_reducible refine (navR_nil _ _ _).trans ?_) | (with_reducible refine (modR_nil _ _ _).trans ?_) | fail)
    conv => lhs; whnf
    refine IH hlt _ _ (by rw [hw]; rfl) (by rw [← take_snoc hlt]; rfl)
  · have e1 := nlt_map (f := progA) (Nat.le_of_not_lt hlt)
    obtain rfl : k = xs.length := by omega
    rw [List.take_length]
    repeat' ((conv => lhs; whnf); first | (with_reducible refine evOps_cons.trans ?_) | (with_reducible refine evOps_nil.trans ?_) | (with_reducible refine ev_seq.trans ?_) | (with_reducible refine ev_region.trans ?_) | (with_reducible refine ev_cond.trans ?_) | (with_reducible refine ev_block.trans ?_) | (with_reducible refine ev_loop.trans ?_) | (with_reducible refine ev_exit.trans ?_) | (with_reducible refine ev_ret.trans ?_) | (with_reducible refine ev_skip.trans ?_) | (with_reducible refine ev_draw.trans ?_) | (with_reducible refine evList_cons.trans ?_) | (with_reducible refine evList_nil.trans ?_) | (with_reducible refine (br_true _ _).trans ?_) | (with_reducible refine (br_false _ _).trans ?_) | (with_reducible refine (br_pos (by assumption)).trans ?_) | (with_reducible refine (br_neg (by assumption)).trans ?_) | (with_reducible refine (navR_nil _ _ _).trans ?_) | (with_reducible refine (modR_nil _ _ _).trans ?_) | fail)
    conv => lhs; whnf
end Go.Proofs.Ytnhggokeblijpaa.A
