/- What the program's functions answer (Gb): no condition. -/
import Derived.Test.YtbploohjimpcaaaGreatGa
set_option linter.unusedVariables false
set_option linter.unusedSimpArgs false
namespace Go.Proofs.YtbploohjimpcaaaGreat.A
open Go Go.Abs
set_option maxRecDepth 100000
theorem Xsn (x:Int):x=0∨x=60∨x=61∨x=50∨x=70∨(x≠0∧x≠60∧x≠61∧x≠50∧x≠70):=by omega
set_option maxHeartbeats 4000000 in
theorem Xk2 {n:Nat} {c:Cf} {t:Th} (hc:Yp c=true) (ht:t.len) (hi:t.i64):callP cfg (n+9) 177 [.agg (cfA c),.agg (thA t)]=some ⟨.bool (thB c t),[]⟩:=by
 rw [Xa]
 obtain ⟨l1,l2,l3,l4,l5⟩:=ht
 obtain ⟨i1,i2,i3,i4,i5,i6,i7⟩:=hi
 have hb:=Xm hc
 have wk1:IntKind.i64.wrap (c.th - 1)=c.th - 1:=Xc (by omega) (by omega)
 have wk2:IntKind.i64.wrap (IntKind.i64.wrap (2*c.th) - 1)=2*c.th - 1:=by simp only [IntKind.wrap_i64];omega
 rcases Xsn t.pc with h | h | h | h | h | h
 ·have p0:(t.pc !=0)=false:=Yb h
  have p60:(t.pc==60)=false:=Xt (by rw [h];decide)
  have p61:(t.pc==61)=false:=Xt (by rw [h];decide)
  have p50:(t.pc==50)=false:=Xt (by rw [h];decide)
  have p70:(t.pc==70)=false:=Xt (by rw [h];decide)
  have fq1:=@Qp
  have fq2:=@Ya
  have fq3:=@X1
  have fq4:=fun {n:Nat}=>Ze (n:=n) i4
  have fq5:=fun {n:Nat} {c:Cf}=>X7 (n:=n) (c:=c) i1
  have fq6:=fun {n:Nat} {c:Cf}=>X7 (n:=n) (c:=c) i2
  have fq7:=fun {n:Nat} {c:Cf}=>X7 (n:=n) (c:=c) i3
  have fq8:=fun {n:Nat} {c:Cf}=>X7 (n:=n) (c:=c) (Xy i4)
  have fq9:=fun {n:Nat} {c:Cf}=>Yw (n:=n) (c:=c) l3 i5
  have fq10:=fun {n:Nat} {c:Cf}=>Yw (n:=n) (c:=c) l4 i6
  have fq11:=fun {n:Nat}=>Xgg (n:=n) l2 hc
  have fq12:=fun {n:Nat} {c:Cf}=>Xdx (n:=n) (c:=c) l5 i7
  refine goS ?_
  clear fq1 fq2 fq3 fq4 fq5 fq6 fq7 fq8 fq9 fq10 fq11 fq12
  repeat' (refine Y9 (fun _=>?_) (fun _=>?_))
  all_goals (conv=>lhs;whnf)
  all_goals (refine okB ?_;(try simp only [Wm,Q5,Bool.not_not] at *);unfold thB opsB Xco Xdh Xie;simp_all;try omega)
 ·have p0:(t.pc !=0)=true:=Zn (by rw [h];decide)
  have p60:(t.pc==60)=true:=Yk h
  have p61:(t.pc==61)=false:=Xt (by rw [h];decide)
  have p50:(t.pc==50)=false:=Xt (by rw [h];decide)
  have p70:(t.pc==70)=false:=Xt (by rw [h];decide)
  have fq1:=@Qp
  have fq2:=@Ya
  have fq3:=@X1
  have fq4:=fun {n:Nat}=>Ze (n:=n) i4
  have fq5:=fun {n:Nat} {c:Cf}=>X7 (n:=n) (c:=c) i1
  have fq6:=fun {n:Nat} {c:Cf}=>X7 (n:=n) (c:=c) i2
  have fq7:=fun {n:Nat} {c:Cf}=>X7 (n:=n) (c:=c) i3
  have fq8:=fun {n:Nat} {c:Cf}=>X7 (n:=n) (c:=c) (Xy i4)
  have fq9:=fun {n:Nat} {c:Cf}=>Yw (n:=n) (c:=c) l3 i5
  have fq10:=fun {n:Nat} {c:Cf}=>Yw (n:=n) (c:=c) l4 i6
  have fq11:=fun {n:Nat}=>Xgg (n:=n) l2 hc
  have fq12:=fun {n:Nat} {c:Cf}=>Xdx (n:=n) (c:=c) l5 i7
  refine goS ?_
  clear fq1 fq2 fq3 fq4 fq5 fq6 fq7 fq8 fq9 fq10 fq11 fq12
  repeat' (refine Y9 (fun _=>?_) (fun _=>?_))
  all_goals (conv=>lhs;whnf)
  all_goals (refine okB ?_;(try simp only [Wm,Q5,Bool.not_not] at *);unfold thB opsB Xco Xdh Xie;simp_all;try omega)
 ·have p0:(t.pc !=0)=true:=Zn (by rw [h];decide)
  have p60:(t.pc==60)=false:=Xt (by rw [h];decide)
  have p61:(t.pc==61)=true:=Yk h
  have p50:(t.pc==50)=false:=Xt (by rw [h];decide)
  have p70:(t.pc==70)=false:=Xt (by rw [h];decide)
  have fq1:=@Qp
  have fq2:=@Ya
  have fq3:=@X1
  have fq4:=fun {n:Nat}=>Ze (n:=n) i4
  have fq5:=fun {n:Nat} {c:Cf}=>X7 (n:=n) (c:=c) i1
  have fq6:=fun {n:Nat} {c:Cf}=>X7 (n:=n) (c:=c) i2
  have fq7:=fun {n:Nat} {c:Cf}=>X7 (n:=n) (c:=c) i3
  have fq8:=fun {n:Nat} {c:Cf}=>X7 (n:=n) (c:=c) (Xy i4)
  have fq9:=fun {n:Nat} {c:Cf}=>Yw (n:=n) (c:=c) l3 i5
  have fq10:=fun {n:Nat} {c:Cf}=>Yw (n:=n) (c:=c) l4 i6
  have fq11:=fun {n:Nat}=>Xgg (n:=n) l2 hc
  have fq12:=fun {n:Nat} {c:Cf}=>Xdx (n:=n) (c:=c) l5 i7
  refine goS ?_
  clear fq1 fq2 fq3 fq4 fq5 fq6 fq7 fq8 fq9 fq10 fq11 fq12
  repeat' (refine Y9 (fun _=>?_) (fun _=>?_))
  all_goals (conv=>lhs;whnf)
  all_goals (refine okB ?_;(try simp only [Wm,Q5,Bool.not_not] at *);unfold thB opsB Xco Xdh Xie;simp_all;try omega)
 ·have p0:(t.pc !=0)=true:=Zn (by rw [h];decide)
  have p60:(t.pc==60)=false:=Xt (by rw [h];decide)
  have p61:(t.pc==61)=false:=Xt (by rw [h];decide)
  have p50:(t.pc==50)=true:=Yk h
  have p70:(t.pc==70)=false:=Xt (by rw [h];decide)
  have fq1:=@Qp
  have fq2:=@Ya
  have fq3:=@X1
  have fq4:=fun {n:Nat}=>Ze (n:=n) i4
  have fq5:=fun {n:Nat} {c:Cf}=>X7 (n:=n) (c:=c) i1
  have fq6:=fun {n:Nat} {c:Cf}=>X7 (n:=n) (c:=c) i2
  have fq7:=fun {n:Nat} {c:Cf}=>X7 (n:=n) (c:=c) i3
  have fq8:=fun {n:Nat} {c:Cf}=>X7 (n:=n) (c:=c) (Xy i4)
  have fq9:=fun {n:Nat} {c:Cf}=>Yw (n:=n) (c:=c) l3 i5
  have fq10:=fun {n:Nat} {c:Cf}=>Yw (n:=n) (c:=c) l4 i6
  have fq11:=fun {n:Nat}=>Xgg (n:=n) l2 hc
  have fq12:=fun {n:Nat} {c:Cf}=>Xdx (n:=n) (c:=c) l5 i7
  refine goS ?_
  clear fq1 fq2 fq3 fq4 fq5 fq6 fq7 fq8 fq9 fq10 fq11 fq12
  repeat' (refine Y9 (fun _=>?_) (fun _=>?_))
  all_goals (conv=>lhs;whnf)
  all_goals (refine okB ?_;(try simp only [Wm,Q5,Bool.not_not] at *);unfold thB opsB Xco Xdh Xie;simp_all;try omega)
 ·have p0:(t.pc !=0)=true:=Zn (by rw [h];decide)
  have p60:(t.pc==60)=false:=Xt (by rw [h];decide)
  have p61:(t.pc==61)=false:=Xt (by rw [h];decide)
  have p50:(t.pc==50)=false:=Xt (by rw [h];decide)
  have p70:(t.pc==70)=true:=Yk h
  have fq1:=@Qp
  have fq2:=@Ya
  have fq3:=@X1
  have fq4:=fun {n:Nat}=>Ze (n:=n) i4
  have fq5:=fun {n:Nat} {c:Cf}=>X7 (n:=n) (c:=c) i1
  have fq6:=fun {n:Nat} {c:Cf}=>X7 (n:=n) (c:=c) i2
  have fq7:=fun {n:Nat} {c:Cf}=>X7 (n:=n) (c:=c) i3
  have fq8:=fun {n:Nat} {c:Cf}=>X7 (n:=n) (c:=c) (Xy i4)
  have fq9:=fun {n:Nat} {c:Cf}=>Yw (n:=n) (c:=c) l3 i5
  have fq10:=fun {n:Nat} {c:Cf}=>Yw (n:=n) (c:=c) l4 i6
  have fq11:=fun {n:Nat}=>Xgg (n:=n) l2 hc
  have fq12:=fun {n:Nat} {c:Cf}=>Xdx (n:=n) (c:=c) l5 i7
  refine goS ?_
  clear fq1 fq2 fq3 fq4 fq5 fq6 fq7 fq8 fq9 fq10 fq11 fq12
  repeat' (refine Y9 (fun _=>?_) (fun _=>?_))
  all_goals (conv=>lhs;whnf)
  all_goals (refine okB ?_;(try simp only [Wm,Q5,Bool.not_not] at *);unfold thB opsB Xco Xdh Xie;simp_all;try omega)
 ·have p0:(t.pc !=0)=true:=Zn h.1
  have p60:(t.pc==60)=false:=Xt h.2.1
  have p61:(t.pc==61)=false:=Xt h.2.2.1
  have p50:(t.pc==50)=false:=Xt h.2.2.2.1
  have p70:(t.pc==70)=false:=Xt h.2.2.2.2
  have fq1:=@Qp
  have fq2:=@Ya
  have fq3:=@X1
  have fq4:=fun {n:Nat}=>Ze (n:=n) i4
  have fq5:=fun {n:Nat} {c:Cf}=>X7 (n:=n) (c:=c) i1
  have fq6:=fun {n:Nat} {c:Cf}=>X7 (n:=n) (c:=c) i2
  have fq7:=fun {n:Nat} {c:Cf}=>X7 (n:=n) (c:=c) i3
  have fq8:=fun {n:Nat} {c:Cf}=>X7 (n:=n) (c:=c) (Xy i4)
  have fq9:=fun {n:Nat} {c:Cf}=>Yw (n:=n) (c:=c) l3 i5
  have fq10:=fun {n:Nat} {c:Cf}=>Yw (n:=n) (c:=c) l4 i6
  have fq11:=fun {n:Nat}=>Xgg (n:=n) l2 hc
  have fq12:=fun {n:Nat} {c:Cf}=>Xdx (n:=n) (c:=c) l5 i7
  refine goS ?_
  clear fq1 fq2 fq3 fq4 fq5 fq6 fq7 fq8 fq9 fq10 fq11 fq12
  repeat' (refine Y9 (fun _=>?_) (fun _=>?_))
  all_goals (conv=>lhs;whnf)
  all_goals (refine okB ?_;(try simp only [Wm,Q5,Bool.not_not] at *);unfold thB opsB Xco Xdh Xie;simp_all;try omega)
end Go.Proofs.YtbploohjimpcaaaGreat.A
