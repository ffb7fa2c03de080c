/- What the program's functions answer (Gw): no condition. -/
import Derived.Test.YtbploohjimpcaaaGreatGu
import Derived.Test.YtbploohjimpcaaaGreatGv
import Derived.Test.YtbploohjimpcaaaGreatLib3
set_option linter.unusedVariables false
set_option linter.unusedSimpArgs false
namespace Go.Proofs.YtbploohjimpcaaaGreat.A
open Go Go.Abs
set_option maxRecDepth 100000
set_option maxHeartbeats 8000000 in
theorem F_laws_FnExactSummaryOf {n:Nat} {x:Scr} (hx:x.len):callP cfg (n+69) 5 [.agg (scrA x)]=some ⟨.bool true,[]⟩:=by
 rw [callP_succ]
 have z0:(0:Int)≤1048576:=by decide
 have z1:(1048576:Int)≤1048576:=by decide
 by_cases hz:szSc x 1048576<0
 ·have d:decide (szSc x 1048576<0)=true:=decide_eq_true hz
  have fq1:=fun {n:Nat}=>F_laws_szScript (n:=n) hx z0 z1
  refine go ?_
  clear fq1
  try with_reducible rfl
  all_goals rfl
 ·have d:decide (szSc x 1048576<0)=false:=decide_eq_false hz
  have hr:=szSc_room hz
  have hbb:∀ b:Bool,(b !=b)=false:=fun b=>by cases b <;> rfl
  have hxx:(!decide (x=x))=false:=by simp
  by_cases hs:scrB x=true
  ·have hI:=fun {n:Nat}=>F_impl_SummaryOf (n:=n) hr
   have hS:=fun {n:Nat}=>F_spec_SummaryOf (n:=n) hr
   rw [if_pos hs,hs] at hI hS
   unfold sumA at hI hS
   dsimp only at hI hS
   have fq11:=@hI
   have fq12:=@hS
   have fq1:=fun {n:Nat}=>F_laws_szScript (n:=n) hx z0 z1
   have fq2:=fun {n:Nat}=>F_laws_toScript (n:=n) hr
   have fq3:=fun {n:Nat} {b:Scr}=>F_laws_eqScript (n:=n) (b:=b) hx
   have fq4:=@F_laws_eqSummary
   refine goD ?_
   clear fq1 fq2 fq3 fq4
   try with_reducible rfl
   all_goals rfl
  ·replace hs:scrB x=false:=by simpa using hs
   have hI:=fun {n:Nat}=>F_impl_SummaryOf (n:=n) hr
   have hS:=fun {n:Nat}=>F_spec_SummaryOf (n:=n) hr
   rw [if_neg (by rw [hs];simp),hs] at hI hS
   have fq11:=@hI
   have fq12:=@hS
   have fq1:=fun {n:Nat}=>F_laws_szScript (n:=n) hx z0 z1
   have fq2:=fun {n:Nat}=>F_laws_toScript (n:=n) hr
   have fq3:=fun {n:Nat} {b:Scr}=>F_laws_eqScript (n:=n) (b:=b) hx
   have fq4:=@F_laws_eqSummary
   refine goD ?_
   clear fq1 fq2 fq3 fq4
   try with_reducible rfl
   all_goals rfl
end Go.Proofs.YtbploohjimpcaaaGreat.A
