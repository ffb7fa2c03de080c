/- What the program's functions answer (Kn): no condition. -/
import Derived.Test.YtbploohjimpcaaaGreatGl
import Derived.Test.YtbploohjimpcaaaGreatKl
import Derived.Test.YtbploohjimpcaaaGreatKm
set_option linter.unusedVariables false
set_option linter.unusedSimpArgs false
namespace Go.Proofs.YtbploohjimpcaaaGreat.A
open Go Go.Abs
set_option maxRecDepth 100000
set_option maxHeartbeats 16000000
theorem X23 {n:Nat} {s:Sta} {p:Nat} (hs:staB s=true) (hr:s.room) (hi:s.i64) (hp:p<s.ths.length) (h:(s.th p).pc=50) (h1:¬(s.th p).pos+1<s.c.th) (h0:¬(cl s (annB s.c (s.th p).pos))=0) (hk5:¬(s.th p).op.k=5) (hwl:¬(s.th p).work.length+((s.th p).buf.filter fun e=>drpB s.c.p (s.th p).op.key ((s.th p).found++[(cl s (annB s.c (s.th p).pos))]) e).length=0):RK (n+15) s p:=by
 unfold RK;rw [Xa]
 obtain ⟨H,_,T,T6,_,hcf,_,_,_,_,_,_,_,_,_,r1,hL,_,_,w0,w1,w2,w3,_,hcl,_,l1,l2,l3,_,_,x8⟩:=pre hs hr hi hp h (by decide)
 rw [stv,st50 h]
 have st1:=r1
 have h5':=T.p5 h
 have h5:0≤(s.th p).pos∧(s.th p).pos<s.c.th:=by omega
 have sa:=Zr H h5
 have hLd:ldL s.cells (annB s.c (s.th p).pos)=(cl s (annB s.c (s.th p).pos)):=Zl sa
 have wp:IntKind.i64.wrap ((s.th p).pos+1)=(s.th p).pos+1:=Xc (by omega) (by omega)
 have l1:=T.lo
 have l2:=T.lb
 have l3:=T.lw
 have lP:=Yh (q:=fun e=>drpB s.c.p (s.th p).op.key ((s.th p).found++[(cl s (annB s.c (s.th p).pos))]) e) (k:=(s.th p).buf.length) l2
 rw [List.take_length] at lP
 have b9x:(((((s.th p).work.map entA)++((s.th p).buf.filter fun e=>drpB s.c.p (s.th p).op.key ((s.th p).found++[(cl s (annB s.c (s.th p).pos))]) e).map entA).length:Int)==0)=false:=by simp only [List.length_append,List.length_map];exact Xt (by omega)
 have x7:=fun {x y:R}=>Uk (x:=x) (y:=y) b9x
 rw [Xxn hLd h1 hk5 h0 hwl]
 exact LKp
theorem X24 {n:Nat} {s:Sta} {p:Nat} (hs:staB s=true) (hr:s.room) (hi:s.i64) (hp:p<s.ths.length) (h:(s.th p).pc=50) (h1:¬(s.th p).pos+1<s.c.th) (h0:¬(cl s (annB s.c (s.th p).pos))=0) (hk5:¬(s.th p).op.k=5) (hwl:(s.th p).work.length+((s.th p).buf.filter fun e=>drpB s.c.p (s.th p).op.key ((s.th p).found++[(cl s (annB s.c (s.th p).pos))]) e).length=0):RK (n+15) s p:=by
 unfold RK;rw [Xa]
 obtain ⟨H,_,T,T6,_,hcf,_,_,_,_,_,_,_,_,_,r1,hL,_,_,w0,w1,w2,w3,_,hcl,_,l1,l2,l3,_,_,x8⟩:=pre hs hr hi hp h (by decide)
 rw [stv,st50 h]
 have st1:=r1
 have h5':=T.p5 h
 have h5:0≤(s.th p).pos∧(s.th p).pos<s.c.th:=by omega
 have sa:=Zr H h5
 have hLd:ldL s.cells (annB s.c (s.th p).pos)=(cl s (annB s.c (s.th p).pos)):=Zl sa
 have wp:IntKind.i64.wrap ((s.th p).pos+1)=(s.th p).pos+1:=Xc (by omega) (by omega)
 have l1:=T.lo
 have l2:=T.lb
 have l3:=T.lw
 by_cases hl1:((s.th p).limbo.length:Int)≥2*s.c.th+s.c.b
 ·have lP:=Yh (q:=fun e=>drpB s.c.p (s.th p).op.key ((s.th p).found++[(cl s (annB s.c (s.th p).pos))]) e) (k:=(s.th p).buf.length) l2
  rw [List.take_length] at lP
  have b9x:(((((s.th p).work.map entA)++((s.th p).buf.filter fun e=>drpB s.c.p (s.th p).op.key ((s.th p).found++[(cl s (annB s.c (s.th p).pos))]) e).map entA).length:Int)==0)=true:=by simp only [List.length_append,List.length_map];exact Yk (by omega)
  have x7:=fun {x y:R}=>Xn (x:=x) (y:=y) b9x
  rw [Xph hLd h1 hk5 h0 hwl,Qr (c:=s.c) (t:={s.th p with found:=((s.th p).found++[(cl s (annB s.c (s.th p).pos))]),pos:=(s.th p).pos+1,buf:=((s.th p).buf.filter fun e=>!drpB s.c.p (s.th p).op.key ((s.th p).found++[(cl s (annB s.c (s.th p).pos))]) e),work:=(s.th p).work++((s.th p).buf.filter fun e=>drpB s.c.p (s.th p).op.key ((s.th p).found++[(cl s (annB s.c (s.th p).pos))]) e),pc:=60}) (Or.inl hl1)]
  exact LKp
 ·have hl2:=hk5
  have lP:=Yh (q:=fun e=>drpB s.c.p (s.th p).op.key ((s.th p).found++[(cl s (annB s.c (s.th p).pos))]) e) (k:=(s.th p).buf.length) l2
  rw [List.take_length] at lP
  have b9x:(((((s.th p).work.map entA)++((s.th p).buf.filter fun e=>drpB s.c.p (s.th p).op.key ((s.th p).found++[(cl s (annB s.c (s.th p).pos))]) e).map entA).length:Int)==0)=true:=by simp only [List.length_append,List.length_map];exact Yk (by omega)
  have x7:=fun {x y:R}=>Xn (x:=x) (y:=y) b9x
  rw [Xph hLd h1 hk5 h0 hwl,Xbt (c:=s.c) (t:={s.th p with found:=((s.th p).found++[(cl s (annB s.c (s.th p).pos))]),pos:=(s.th p).pos+1,buf:=((s.th p).buf.filter fun e=>!drpB s.c.p (s.th p).op.key ((s.th p).found++[(cl s (annB s.c (s.th p).pos))]) e),work:=(s.th p).work++((s.th p).buf.filter fun e=>drpB s.c.p (s.th p).op.key ((s.th p).found++[(cl s (annB s.c (s.th p).pos))]) e),pc:=60}) (fun h=>h.elim hl1 (fun h=>hl2 h.1))]
  exact LKp
theorem R_50 {n:Nat} {s:Sta} {p:Nat} (hs:staB s=true) (hr:s.room) (hi:s.i64) (hp:p<s.ths.length) (h:(s.th p).pc=50):RK (n+15) s p:=by
 by_cases h1:(s.th p).pos+1<s.c.th
 ·by_cases h0:(cl s (annB s.c (s.th p).pos))=0
  ·exact X6r hs hr hi hp h h1 h0
  ·exact X6s hs hr hi hp h h1 h0
 ·by_cases h0:(cl s (annB s.c (s.th p).pos))=0
  ·by_cases hk5:(s.th p).op.k=5
   ·by_cases hwl:(s.th p).work.length+((s.th p).buf.filter fun e=>drpB s.c.p (-1) (s.th p).found e).length=0
    ·exact X2y hs hr hi hp h h1 h0 hk5 hwl
    ·exact X2x hs hr hi hp h h1 h0 hk5 hwl
   ·by_cases hwl:(s.th p).work.length+((s.th p).buf.filter fun e=>drpB s.c.p (s.th p).op.key (s.th p).found e).length=0
    ·exact X20 hs hr hi hp h h1 h0 hk5 hwl
    ·exact X2z hs hr hi hp h h1 h0 hk5 hwl
  ·by_cases hk5:(s.th p).op.k=5
   ·by_cases hwl:(s.th p).work.length+((s.th p).buf.filter fun e=>drpB s.c.p (-1) ((s.th p).found++[(cl s (annB s.c (s.th p).pos))]) e).length=0
    ·exact X22 hs hr hi hp h h1 h0 hk5 hwl
    ·exact X21 hs hr hi hp h h1 h0 hk5 hwl
   ·by_cases hwl:(s.th p).work.length+((s.th p).buf.filter fun e=>drpB s.c.p (s.th p).op.key ((s.th p).found++[(cl s (annB s.c (s.th p).pos))]) e).length=0
    ·exact X24 hs hr hi hp h h1 h0 hk5 hwl
    ·exact X23 hs hr hi hp h h1 h0 hk5 hwl
end Go.Proofs.YtbploohjimpcaaaGreat.A
