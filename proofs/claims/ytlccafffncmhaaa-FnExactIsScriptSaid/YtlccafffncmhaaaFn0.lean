/- What the functions that SoloBound reaches answer: no condition. -/
import Derived.Test.YtlccafffncmhaaaCfg
namespace Go.Proofs.Ytlccafffncmhaaa.A
open Go Go.Abs
set_option maxRecDepth 100000
theorem okB {x y : Bool} (h : x = y) : some (⟨.bool x, []⟩ : Res) = some ⟨.bool y, []⟩ := by rw [h]
theorem okI {x y : Int} (h : x = y) : some (⟨.int .i64 x, []⟩ : Res) = some ⟨.int .i64 y, []⟩ := by rw [h]
theorem f21 (n : Nat) (a b c : Int) : callP cfg (n+1) 21 [.int .i64 a, .int .i64 b, .int .i64 c] = some ⟨.bool (decide (b ≤ a) && decide (a ≤ c)), []⟩ := by
  rw [callP_succ]
  repeat' ((conv => lhs; whnf); first | (with_reducible refine (br_true _ _).trans ?_) | (with_reducible refine (br_false _ _).trans ?_) | (with_reducible refine (br_pos (by assumption)).trans ?_) | (with_reducible refine (br_neg (by assumption)).trans ?_) | (refine br_if (fun _ => ?_) (fun _ => ?_)))
  all_goals (conv => lhs; whnf)
  all_goals (refine okB ?_; simp_all <;> omega)
theorem f22 (n : Nat) (a b c : Int) : callP cfg (n+1) 22 [.int .i64 a, .int .i64 b, .int .i64 c] = some ⟨.bool (decide (b ≤ a) && decide (a ≤ c)), []⟩ := by
  rw [callP_succ]
  repeat' ((conv => lhs; whnf); first | (with_reducible refine (br_true _ _).trans ?_) | (with_reducible refine (br_false _ _).trans ?_) | (with_reducible refine (br_pos (by assumption)).trans ?_) | (with_reducible refine (br_neg (by assumption)).trans ?_) | (refine br_if (fun _ => ?_) (fun _ => ?_)))
  all_goals (conv => lhs; whnf)
  all_goals (refine okB ?_; simp_all <;> omega)
abbrev cfgA (a b c d e f : Int) : List AV := [.int .i64 a, .int .i64 b, .int .i64 c, .int .i64 d, .int .i64 e, .int .i64 f]
def isCfg (a b c d e f : Int) : Bool := decide (1 ≤ a ∧ a ≤ 4 ∧ 1 ≤ b ∧ b ≤ 4 ∧ 1 ≤ c ∧ c ≤ 24 ∧ 1 ≤ d ∧ d ≤ 4 ∧ 0 ≤ e ∧ e ≤ 2 ∧ 1 ≤ f ∧ f ≤ 99)
theorem f23 (n : Nat) (a b c d e f : Int) : callP cfg (n+2) 23 [.agg (cfgA a b c d e f)] = some ⟨.bool (isCfg a b c d e f), []⟩ := by
  rw [callP_succ]
  repeat' ((conv => lhs; whnf); first | (with_reducible refine (br_true _ _).trans ?_) | (with_reducible refine (br_false _ _).trans ?_) | (with_reducible refine (br_pos (by assumption)).trans ?_) | (with_reducible refine (br_neg (by assumption)).trans ?_) | (with_reducible refine (bnd_call (f21 _ _ _ _)).trans ?_) | (refine br_if (fun _ => ?_) (fun _ => ?_)))
  all_goals (conv => lhs; whnf)
  all_goals (refine okB ?_; unfold isCfg; simp_all <;> omega)
theorem f24 (n : Nat) (a b c d e f : Int) : callP cfg (n+2) 24 [.agg (cfgA a b c d e f)] = some ⟨.bool (isCfg a b c d e f), []⟩ := by
  rw [callP_succ]
  repeat' ((conv => lhs; whnf); first | (with_reducible refine (br_true _ _).trans ?_) | (with_reducible refine (br_false _ _).trans ?_) | (with_reducible refine (br_pos (by assumption)).trans ?_) | (with_reducible refine (br_neg (by assumption)).trans ?_) | (with_reducible refine (bnd_call (f22 _ _ _ _)).trans ?_) | (refine br_if (fun _ => ?_) (fun _ => ?_)))
  all_goals (conv => lhs; whnf)
  all_goals (refine okB ?_; unfold isCfg; simp_all <;> omega)
theorem f10 (n : Nat) (a b c d e f : Int) : callP cfg (n+1) 10 [.agg (cfgA a b c d e f)] = some ⟨.agg (cfgA a b c d e f), []⟩ := by
  rw [callP_succ]
  repeat' ((conv => lhs; whnf); first | (with_reducible refine (br_true _ _).trans ?_) | (with_reducible refine (br_false _ _).trans ?_) | (with_reducible refine (br_pos (by assumption)).trans ?_) | (with_reducible refine (br_neg (by assumption)).trans ?_) | (refine br_if (fun _ => ?_) (fun _ => ?_)))
  all_goals (conv => lhs; whnf)
  all_goals rfl
def soloV (a c : Int) : Int := IntKind.i64.wrap (IntKind.i64.wrap (60 + IntKind.i64.wrap (6 * a)) + IntKind.i64.wrap (IntKind.i64.wrap (IntKind.i64.wrap (2 * c) + 1) * IntKind.i64.wrap (IntKind.i64.wrap (14 * c) + 20)))
def soloB (a b c d e f : Int) : Int := if isCfg a b c d e f then soloV a c else 0
theorem f9 (n : Nat) (a b c d e f : Int) : callP cfg (n+3) 9 [.agg (cfgA a b c d e f)] = some ⟨.int .i64 (soloB a b c d e f), []⟩ := by
  rw [callP_succ]
  unfold soloB
  by_cases hc : isCfg a b c d e f = true
  · rw [if_pos hc]
    have hn : (!isCfg a b c d e f) = false := by simp [hc]
    repeat' ((conv => lhs; whnf); first | (with_reducible refine (br_true _ _).trans ?_) | (with_reducible refine (br_false _ _).trans ?_) | (with_reducible refine (br_pos (by assumption)).trans ?_) | (with_reducible refine (br_neg (by assumption)).trans ?_) | (with_reducible refine (bnd_call (f23 _ _ _ _ _ _ _)).trans ?_) | (refine br_if (fun _ => ?_) (fun _ => ?_)))
    all_goals (conv => lhs; whnf)
    all_goals rfl
  · rw [if_neg hc]
    have hn : (!isCfg a b c d e f) = true := by simpa using hc
    repeat' ((conv => lhs; whnf); first | (with_reducible refine (br_true _ _).trans ?_) | (with_reducible refine (br_false _ _).trans ?_) | (with_reducible refine (br_pos (by assumption)).trans ?_) | (with_reducible refine (br_neg (by assumption)).trans ?_) | (with_reducible refine (bnd_call (f23 _ _ _ _ _ _ _)).trans ?_) | (refine br_if (fun _ => ?_) (fun _ => ?_)))
    all_goals (conv => lhs; whnf)
    all_goals rfl
theorem f11 (n : Nat) (a b c d e f : Int) : callP cfg (n+3) 11 [.agg (cfgA a b c d e f)] = some ⟨.int .i64 (soloB a b c d e f), []⟩ := by
  rw [callP_succ]
  unfold soloB
  by_cases hc : isCfg a b c d e f = true
  · rw [if_pos hc]
    have hn : (!isCfg a b c d e f) = false := by simp [hc]
    repeat' ((conv => lhs; whnf); first | (with_reducible refine (br_true _ _).trans ?_) | (with_reducible refine (br_false _ _).trans ?_) | (with_reducible refine (br_pos (by assumption)).trans ?_) | (with_reducible refine (br_neg (by assumption)).trans ?_) | (with_reducible refine (bnd_call (f24 _ _ _ _ _ _ _)).trans ?_) | (refine br_if (fun _ => ?_) (fun _ => ?_)))
    all_goals (conv => lhs; whnf)
    all_goals rfl
  · rw [if_neg hc]
    have hn : (!isCfg a b c d e f) = true := by simpa using hc
    repeat' ((conv => lhs; whnf); first | (with_reducible refine (br_true _ _).trans ?_) | (with_reducible refine (br_false _ _).trans ?_) | (with_reducible refine (br_pos (by assumption)).trans ?_) | (with_reducible refine (br_neg (by assumption)).trans ?_) | (with_reducible refine (bnd_call (f24 _ _ _ _ _ _ _)).trans ?_) | (refine br_if (fun _ => ?_) (fun _ => ?_)))
    all_goals (conv => lhs; whnf)
    all_goals rfl
theorem f4 (n : Nat) (a b c d e f : Int) : callP cfg (n+4) 4 [.agg (cfgA a b c d e f)] = some ⟨.bool true, []⟩ := by
  rw [callP_succ]
  have hn : (soloB a b c d e f != soloB a b c d e f) = false := by simp
  repeat' ((conv => lhs; whnf); first | (with_reducible refine (br_true _ _).trans ?_) | (with_reducible refine (br_false _ _).trans ?_) | (with_reducible refine (br_pos (by assumption)).trans ?_) | (with_reducible refine (br_neg (by assumption)).trans ?_) | (with_reducible refine (bnd_call (f10 _ _ _ _ _ _ _)).trans ?_) | (with_reducible refine (bnd_call (f9 _ _ _ _ _ _ _)).trans ?_) | (with_reducible refine (bnd_call (f11 _ _ _ _ _ _ _)).trans ?_) | (refine br_if (fun _ => ?_) (fun _ => ?_)))
  all_goals (conv => lhs; whnf)
  all_goals rfl
end Go.Proofs.Ytlccafffncmhaaa.A
