/- What the program's functions answer (Gb): no condition. -/
import Derived.Test.YtbploohjimpcaaaGreatGa
set_option linter.unusedVariables false
set_option linter.unusedSimpArgs false
namespace Go.Proofs.YtbploohjimpcaaaGreat.A
open Go Go.Abs
set_option maxRecDepth 100000
theorem pc_cases (x:Int):x=0∨x=60∨x=61∨x=50∨x=70∨(x≠0∧x≠60∧x≠61∧x≠50∧x≠70):=by omega
set_option maxHeartbeats 4000000 in
theorem F_impl_isThread {n:Nat} {c:Cf} {t:Th} (hc:isCfB c=true) (ht:t.len) (hi:t.i64):callP cfg (n+9) 177 [.agg (cfA c),.agg (thA t)]=some ⟨.bool (thB c t),[]⟩:=by
 rw [callP_succ]
 obtain ⟨l1,l2,l3,l4,l5⟩:=ht
 obtain ⟨i1,i2,i3,i4,i5,i6,i7⟩:=hi
 have hb:=isCf_bd hc
 have wk1:IntKind.i64.wrap (c.th - 1)=c.th - 1:=wrapI (by omega) (by omega)
 have wk2:IntKind.i64.wrap (IntKind.i64.wrap (2*c.th) - 1)=2*c.th - 1:=by simp only [IntKind.wrap_i64];omega
 rcases pc_cases t.pc with h | h | h | h | h | h
 ·have p0:(t.pc !=0)=false:=bne_f h
  have p60:(t.pc==60)=false:=beq_f (by rw [h];decide)
  have p61:(t.pc==61)=false:=beq_f (by rw [h];decide)
  have p50:(t.pc==50)=false:=beq_f (by rw [h];decide)
  have p70:(t.pc==70)=false:=beq_f (by rw [h];decide)
  have fq1:=@F_impl_IsPc
  have fq2:=@F_impl_IsOp
  have fq3:=@F_impl_in
  have fq4:=fun {n:Nat}=>F_impl_Unmarked (n:=n) i4
  have fq5:=fun {n:Nat} {c:Cf}=>F_impl_isLink (n:=n) (c:=c) i1
  have fq6:=fun {n:Nat} {c:Cf}=>F_impl_isLink (n:=n) (c:=c) i2
  have fq7:=fun {n:Nat} {c:Cf}=>F_impl_isLink (n:=n) (c:=c) i3
  have fq8:=fun {n:Nat} {c:Cf}=>F_impl_isLink (n:=n) (c:=c) (unmk_i64 i4)
  have fq9:=fun {n:Nat} {c:Cf}=>F_impl_areEntries (n:=n) (c:=c) l3 i5
  have fq10:=fun {n:Nat} {c:Cf}=>F_impl_areEntries (n:=n) (c:=c) l4 i6
  have fq11:=fun {n:Nat}=>cf_free (n:=n) l2 hc
  have fq12:=fun {n:Nat} {c:Cf}=>cf_limbo (n:=n) (c:=c) l5 i7
  refine goS ?_
  clear fq1 fq2 fq3 fq4 fq5 fq6 fq7 fq8 fq9 fq10 fq11 fq12
  repeat' (refine bif_if (fun _=>?_) (fun _=>?_))
  all_goals (conv=>lhs;whnf)
  all_goals (refine okB ?_;(try simp only [lnk_unmk,any_not,Bool.not_not] at *);unfold thB opsB markB linksB lensB;simp_all;try omega)
 ·have p0:(t.pc !=0)=true:=bne_t (by rw [h];decide)
  have p60:(t.pc==60)=true:=beq_t h
  have p61:(t.pc==61)=false:=beq_f (by rw [h];decide)
  have p50:(t.pc==50)=false:=beq_f (by rw [h];decide)
  have p70:(t.pc==70)=false:=beq_f (by rw [h];decide)
  have fq1:=@F_impl_IsPc
  have fq2:=@F_impl_IsOp
  have fq3:=@F_impl_in
  have fq4:=fun {n:Nat}=>F_impl_Unmarked (n:=n) i4
  have fq5:=fun {n:Nat} {c:Cf}=>F_impl_isLink (n:=n) (c:=c) i1
  have fq6:=fun {n:Nat} {c:Cf}=>F_impl_isLink (n:=n) (c:=c) i2
  have fq7:=fun {n:Nat} {c:Cf}=>F_impl_isLink (n:=n) (c:=c) i3
  have fq8:=fun {n:Nat} {c:Cf}=>F_impl_isLink (n:=n) (c:=c) (unmk_i64 i4)
  have fq9:=fun {n:Nat} {c:Cf}=>F_impl_areEntries (n:=n) (c:=c) l3 i5
  have fq10:=fun {n:Nat} {c:Cf}=>F_impl_areEntries (n:=n) (c:=c) l4 i6
  have fq11:=fun {n:Nat}=>cf_free (n:=n) l2 hc
  have fq12:=fun {n:Nat} {c:Cf}=>cf_limbo (n:=n) (c:=c) l5 i7
  refine goS ?_
  clear fq1 fq2 fq3 fq4 fq5 fq6 fq7 fq8 fq9 fq10 fq11 fq12
  repeat' (refine bif_if (fun _=>?_) (fun _=>?_))
  all_goals (conv=>lhs;whnf)
  all_goals (refine okB ?_;(try simp only [lnk_unmk,any_not,Bool.not_not] at *);unfold thB opsB markB linksB lensB;simp_all;try omega)
 ·have p0:(t.pc !=0)=true:=bne_t (by rw [h];decide)
  have p60:(t.pc==60)=false:=beq_f (by rw [h];decide)
  have p61:(t.pc==61)=true:=beq_t h
  have p50:(t.pc==50)=false:=beq_f (by rw [h];decide)
  have p70:(t.pc==70)=false:=beq_f (by rw [h];decide)
  have fq1:=@F_impl_IsPc
  have fq2:=@F_impl_IsOp
  have fq3:=@F_impl_in
  have fq4:=fun {n:Nat}=>F_impl_Unmarked (n:=n) i4
  have fq5:=fun {n:Nat} {c:Cf}=>F_impl_isLink (n:=n) (c:=c) i1
  have fq6:=fun {n:Nat} {c:Cf}=>F_impl_isLink (n:=n) (c:=c) i2
  have fq7:=fun {n:Nat} {c:Cf}=>F_impl_isLink (n:=n) (c:=c) i3
  have fq8:=fun {n:Nat} {c:Cf}=>F_impl_isLink (n:=n) (c:=c) (unmk_i64 i4)
  have fq9:=fun {n:Nat} {c:Cf}=>F_impl_areEntries (n:=n) (c:=c) l3 i5
  have fq10:=fun {n:Nat} {c:Cf}=>F_impl_areEntries (n:=n) (c:=c) l4 i6
  have fq11:=fun {n:Nat}=>cf_free (n:=n) l2 hc
  have fq12:=fun {n:Nat} {c:Cf}=>cf_limbo (n:=n) (c:=c) l5 i7
  refine goS ?_
  clear fq1 fq2 fq3 fq4 fq5 fq6 fq7 fq8 fq9 fq10 fq11 fq12
  repeat' (refine bif_if (fun _=>?_) (fun _=>?_))
  all_goals (conv=>lhs;whnf)
  all_goals (refine okB ?_;(try simp only [lnk_unmk,any_not,Bool.not_not] at *);unfold thB opsB markB linksB lensB;simp_all;try omega)
 ·have p0:(t.pc !=0)=true:=bne_t (by rw [h];decide)
  have p60:(t.pc==60)=false:=beq_f (by rw [h];decide)
  have p61:(t.pc==61)=false:=beq_f (by rw [h];decide)
  have p50:(t.pc==50)=true:=beq_t h
  have p70:(t.pc==70)=false:=beq_f (by rw [h];decide)
  have fq1:=@F_impl_IsPc
  have fq2:=@F_impl_IsOp
  have fq3:=@F_impl_in
  have fq4:=fun {n:Nat}=>F_impl_Unmarked (n:=n) i4
  have fq5:=fun {n:Nat} {c:Cf}=>F_impl_isLink (n:=n) (c:=c) i1
  have fq6:=fun {n:Nat} {c:Cf}=>F_impl_isLink (n:=n) (c:=c) i2
  have fq7:=fun {n:Nat} {c:Cf}=>F_impl_isLink (n:=n) (c:=c) i3
  have fq8:=fun {n:Nat} {c:Cf}=>F_impl_isLink (n:=n) (c:=c) (unmk_i64 i4)
  have fq9:=fun {n:Nat} {c:Cf}=>F_impl_areEntries (n:=n) (c:=c) l3 i5
  have fq10:=fun {n:Nat} {c:Cf}=>F_impl_areEntries (n:=n) (c:=c) l4 i6
  have fq11:=fun {n:Nat}=>cf_free (n:=n) l2 hc
  have fq12:=fun {n:Nat} {c:Cf}=>cf_limbo (n:=n) (c:=c) l5 i7
  refine goS ?_
  clear fq1 fq2 fq3 fq4 fq5 fq6 fq7 fq8 fq9 fq10 fq11 fq12
  repeat' (refine bif_if (fun _=>?_) (fun _=>?_))
  all_goals (conv=>lhs;whnf)
  all_goals (refine okB ?_;(try simp only [lnk_unmk,any_not,Bool.not_not] at *);unfold thB opsB markB linksB lensB;simp_all;try omega)
 ·have p0:(t.pc !=0)=true:=bne_t (by rw [h];decide)
  have p60:(t.pc==60)=false:=beq_f (by rw [h];decide)
  have p61:(t.pc==61)=false:=beq_f (by rw [h];decide)
  have p50:(t.pc==50)=false:=beq_f (by rw [h];decide)
  have p70:(t.pc==70)=true:=beq_t h
  have fq1:=@F_impl_IsPc
  have fq2:=@F_impl_IsOp
  have fq3:=@F_impl_in
  have fq4:=fun {n:Nat}=>F_impl_Unmarked (n:=n) i4
  have fq5:=fun {n:Nat} {c:Cf}=>F_impl_isLink (n:=n) (c:=c) i1
  have fq6:=fun {n:Nat} {c:Cf}=>F_impl_isLink (n:=n) (c:=c) i2
  have fq7:=fun {n:Nat} {c:Cf}=>F_impl_isLink (n:=n) (c:=c) i3
  have fq8:=fun {n:Nat} {c:Cf}=>F_impl_isLink (n:=n) (c:=c) (unmk_i64 i4)
  have fq9:=fun {n:Nat} {c:Cf}=>F_impl_areEntries (n:=n) (c:=c) l3 i5
  have fq10:=fun {n:Nat} {c:Cf}=>F_impl_areEntries (n:=n) (c:=c) l4 i6
  have fq11:=fun {n:Nat}=>cf_free (n:=n) l2 hc
  have fq12:=fun {n:Nat} {c:Cf}=>cf_limbo (n:=n) (c:=c) l5 i7
  refine goS ?_
  clear fq1 fq2 fq3 fq4 fq5 fq6 fq7 fq8 fq9 fq10 fq11 fq12
  repeat' (refine bif_if (fun _=>?_) (fun _=>?_))
  all_goals (conv=>lhs;whnf)
  all_goals (refine okB ?_;(try simp only [lnk_unmk,any_not,Bool.not_not] at *);unfold thB opsB markB linksB lensB;simp_all;try omega)
 ·have p0:(t.pc !=0)=true:=bne_t h.1
  have p60:(t.pc==60)=false:=beq_f h.2.1
  have p61:(t.pc==61)=false:=beq_f h.2.2.1
  have p50:(t.pc==50)=false:=beq_f h.2.2.2.1
  have p70:(t.pc==70)=false:=beq_f h.2.2.2.2
  have fq1:=@F_impl_IsPc
  have fq2:=@F_impl_IsOp
  have fq3:=@F_impl_in
  have fq4:=fun {n:Nat}=>F_impl_Unmarked (n:=n) i4
  have fq5:=fun {n:Nat} {c:Cf}=>F_impl_isLink (n:=n) (c:=c) i1
  have fq6:=fun {n:Nat} {c:Cf}=>F_impl_isLink (n:=n) (c:=c) i2
  have fq7:=fun {n:Nat} {c:Cf}=>F_impl_isLink (n:=n) (c:=c) i3
  have fq8:=fun {n:Nat} {c:Cf}=>F_impl_isLink (n:=n) (c:=c) (unmk_i64 i4)
  have fq9:=fun {n:Nat} {c:Cf}=>F_impl_areEntries (n:=n) (c:=c) l3 i5
  have fq10:=fun {n:Nat} {c:Cf}=>F_impl_areEntries (n:=n) (c:=c) l4 i6
  have fq11:=fun {n:Nat}=>cf_free (n:=n) l2 hc
  have fq12:=fun {n:Nat} {c:Cf}=>cf_limbo (n:=n) (c:=c) l5 i7
  refine goS ?_
  clear fq1 fq2 fq3 fq4 fq5 fq6 fq7 fq8 fq9 fq10 fq11 fq12
  repeat' (refine bif_if (fun _=>?_) (fun _=>?_))
  all_goals (conv=>lhs;whnf)
  all_goals (refine okB ?_;(try simp only [lnk_unmk,any_not,Bool.not_not] at *);unfold thB opsB markB linksB lensB;simp_all;try omega)
end Go.Proofs.YtbploohjimpcaaaGreat.A
