/- For every class number, the program's ClassName and the reference's ClassName give the same name. No condition. -/
import Derived.Test.YtlccafffncmhaaaPFnExactClassNamex1
namespace Go.Proofs.Ytlccafffncmhaaa.Pure
open Go.RowKit Go.Proofs.Ytlccafffncmhaaa.PFnExactClassName Go.Proofs.YtlccafffncmhaaaW.PrintWords Go.Proofs.YtlccafffncmhaaaW.PrintLast

/-- YOURS: ∀ (a0 : Int), (Lit.int .i64 a0).wf = true → laws_FnExactClassName.f a0 = some true
What it reaches (each with k first where it has rounds; `.mono`: more rounds tell the same; `.l0`, ..: its loops, with `.mono_l`): spec_l1In.f, spec_ClassName.f, impl_in.f, impl_ClassName.f, laws_FnExactClassName.f -/
theorem same (a : Int) : spec_ClassName.f a = impl_ClassName.f a := rfl

theorem comes (a : Int) : ∃ s, impl_ClassName.f a = some s := by
  unfold impl_ClassName.f impl_in.f
  by_cases h0 : a ≥ 0
  · by_cases h1 : a ≤ 6
    · have e : (decide (a ≤ 6)) = true := decide_eq_true h1
      rw [if_pos h0]
      simp only [Option.bind_some, e, if_true]
      rw [if_pos (by omega), if_pos (by simp only [List.length_cons, List.length_nil]; omega)]
      exact ⟨_, rfl⟩
    · have e : (decide (a ≤ 6)) = false := decide_eq_false h1
      rw [if_pos h0]
      simp only [Option.bind_some, e]
      exact ⟨_, rfl⟩
  · rw [if_neg h0]
    exact ⟨_, rfl⟩

theorem FnExactClassName : laws_FnExactClassName.Pure := by
  intro a _
  obtain ⟨s, hs⟩ := comes a
  unfold laws_FnExactClassName.f
  rw [same a, hs]
  simp only [Option.bind_some, if_true]

end Go.Proofs.Ytlccafffncmhaaa.Pure
