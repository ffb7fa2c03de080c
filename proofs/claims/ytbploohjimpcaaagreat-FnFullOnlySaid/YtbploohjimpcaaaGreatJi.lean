/- What the program's functions answer (Ji): no condition. -/
import Derived.Test.YtbploohjimpcaaaGreatGl
set_option linter.unusedVariables false
set_option linter.unusedSimpArgs false
namespace Go.Proofs.YtbploohjimpcaaaGreat.A
open Go Go.Abs
set_option maxRecDepth 100000
set_option maxHeartbeats 16000000
theorem I_50 {n:Nat} {s:Sta} {p:Nat} (hs:staB s=true) (hr:s.room) (hi:s.i64) (hp:p<s.ths.length) (h:(s.th p).pc=50):IK (n+30) s p 253 312 []:=by
 unfold IK;rw [Xa]
 obtain ⟨H,_,T,T6,_,hcf,_,_,_,_,_,_,_,_,_,r1,hL,_,_,w0,w1,w2,w3,_,hcl,_,l1,l2,l3,_,_,x8⟩:=pre hs hr hi hp h (by decide)
 rw [stv,st50 h]
 have st1:=r1
 have h5':=T.p5 h
 have h5:0≤(s.th p).pos∧(s.th p).pos<s.c.th:=by omega
 have wp:IntKind.i64.wrap ((s.th p).pos+1)=(s.th p).pos+1:=Xc (by omega) (by omega)
 have l1:=T.lo
 have l2:=T.lb
 have l3:=T.lw
 by_cases h1:(s.th p).pos+1<s.c.th
 ·by_cases h0:(ldL s.cells (annB s.c (s.th p).pos))=0
  ·rw [X0q h1 h0]
   exact LJp
  ·rw [X0r h1 h0]
   exact LJp
 ·by_cases h0:(ldL s.cells (annB s.c (s.th p).pos))=0
  ·by_cases hk5:(s.th p).op.k=5
   ·by_cases hwl:(s.th p).work.length+((s.th p).buf.filter fun e=>drpB s.c.p (-1) (s.th p).found e).length=0
    ·by_cases hl1:((s.th p).limbo.length:Int)≥2*s.c.th+s.c.b
     ·have lP:=Yh (q:=fun e=>drpB s.c.p (-1) (s.th p).found e) (k:=(s.th p).buf.length) l2
      rw [List.take_length] at lP
      rw [Xiv h1 hk5 h0 hwl,Qr (c:=s.c) (t:={s.th p with found:=(s.th p).found,pos:=(s.th p).pos+1,buf:=((s.th p).buf.filter fun e=>!drpB s.c.p (-1) (s.th p).found e),work:=(s.th p).work++((s.th p).buf.filter fun e=>drpB s.c.p (-1) (s.th p).found e),pc:=60}) (Or.inl hl1)]
      exact LJp
     ·have hl2:=hk5
      by_cases hl3:(s.th p).limbo.length=0
      ·have lP:=Yh (q:=fun e=>drpB s.c.p (-1) (s.th p).found e) (k:=(s.th p).buf.length) l2
       rw [List.take_length] at lP
       rw [Xiv h1 hk5 h0 hwl,Xbt (c:=s.c) (t:={s.th p with found:=(s.th p).found,pos:=(s.th p).pos+1,buf:=((s.th p).buf.filter fun e=>!drpB s.c.p (-1) (s.th p).found e),work:=(s.th p).work++((s.th p).buf.filter fun e=>drpB s.c.p (-1) (s.th p).found e),pc:=60}) (fun h=>h.elim hl1 (fun h=>h.2 hl3))]
       exact LJp
      ·have lP:=Yh (q:=fun e=>drpB s.c.p (-1) (s.th p).found e) (k:=(s.th p).buf.length) l2
       rw [List.take_length] at lP
       rw [Xiv h1 hk5 h0 hwl,Qr (c:=s.c) (t:={s.th p with found:=(s.th p).found,pos:=(s.th p).pos+1,buf:=((s.th p).buf.filter fun e=>!drpB s.c.p (-1) (s.th p).found e),work:=(s.th p).work++((s.th p).buf.filter fun e=>drpB s.c.p (-1) (s.th p).found e),pc:=60}) (Or.inr ⟨hl2,hl3⟩)]
       exact LJp
    ·have lP:=Yh (q:=fun e=>drpB s.c.p (-1) (s.th p).found e) (k:=(s.th p).buf.length) l2
     rw [List.take_length] at lP
     rw [Xsy h1 hk5 h0 hwl]
     exact LJp
   ·by_cases hwl:(s.th p).work.length+((s.th p).buf.filter fun e=>drpB s.c.p (s.th p).op.key (s.th p).found e).length=0
    ·by_cases hl1:((s.th p).limbo.length:Int)≥2*s.c.th+s.c.b
     ·have lP:=Yh (q:=fun e=>drpB s.c.p (s.th p).op.key (s.th p).found e) (k:=(s.th p).buf.length) l2
      rw [List.take_length] at lP
      rw [Xm8 h1 hk5 h0 hwl,Qr (c:=s.c) (t:={s.th p with found:=(s.th p).found,pos:=(s.th p).pos+1,buf:=((s.th p).buf.filter fun e=>!drpB s.c.p (s.th p).op.key (s.th p).found e),work:=(s.th p).work++((s.th p).buf.filter fun e=>drpB s.c.p (s.th p).op.key (s.th p).found e),pc:=60}) (Or.inl hl1)]
      exact LJp
     ·have hl2:=hk5
      have lP:=Yh (q:=fun e=>drpB s.c.p (s.th p).op.key (s.th p).found e) (k:=(s.th p).buf.length) l2
      rw [List.take_length] at lP
      rw [Xm8 h1 hk5 h0 hwl,Xbt (c:=s.c) (t:={s.th p with found:=(s.th p).found,pos:=(s.th p).pos+1,buf:=((s.th p).buf.filter fun e=>!drpB s.c.p (s.th p).op.key (s.th p).found e),work:=(s.th p).work++((s.th p).buf.filter fun e=>drpB s.c.p (s.th p).op.key (s.th p).found e),pc:=60}) (fun h=>h.elim hl1 (fun h=>hl2 h.1))]
      exact LJp
    ·have lP:=Yh (q:=fun e=>drpB s.c.p (s.th p).op.key (s.th p).found e) (k:=(s.th p).buf.length) l2
     rw [List.take_length] at lP
     rw [Xsx h1 hk5 h0 hwl]
     exact LJp
  ·by_cases hk5:(s.th p).op.k=5
   ·by_cases hwl:(s.th p).work.length+((s.th p).buf.filter fun e=>drpB s.c.p (-1) ((s.th p).found++[(ldL s.cells (annB s.c (s.th p).pos))]) e).length=0
    ·by_cases hl1:((s.th p).limbo.length:Int)≥2*s.c.th+s.c.b
     ·have lP:=Yh (q:=fun e=>drpB s.c.p (-1) ((s.th p).found++[(ldL s.cells (annB s.c (s.th p).pos))]) e) (k:=(s.th p).buf.length) l2
      rw [List.take_length] at lP
      rw [Xiu h1 hk5 h0 hwl,Qr (c:=s.c) (t:={s.th p with found:=((s.th p).found++[(ldL s.cells (annB s.c (s.th p).pos))]),pos:=(s.th p).pos+1,buf:=((s.th p).buf.filter fun e=>!drpB s.c.p (-1) ((s.th p).found++[(ldL s.cells (annB s.c (s.th p).pos))]) e),work:=(s.th p).work++((s.th p).buf.filter fun e=>drpB s.c.p (-1) ((s.th p).found++[(ldL s.cells (annB s.c (s.th p).pos))]) e),pc:=60}) (Or.inl hl1)]
      exact LJp
     ·have hl2:=hk5
      by_cases hl3:(s.th p).limbo.length=0
      ·have lP:=Yh (q:=fun e=>drpB s.c.p (-1) ((s.th p).found++[(ldL s.cells (annB s.c (s.th p).pos))]) e) (k:=(s.th p).buf.length) l2
       rw [List.take_length] at lP
       rw [Xiu h1 hk5 h0 hwl,Xbt (c:=s.c) (t:={s.th p with found:=((s.th p).found++[(ldL s.cells (annB s.c (s.th p).pos))]),pos:=(s.th p).pos+1,buf:=((s.th p).buf.filter fun e=>!drpB s.c.p (-1) ((s.th p).found++[(ldL s.cells (annB s.c (s.th p).pos))]) e),work:=(s.th p).work++((s.th p).buf.filter fun e=>drpB s.c.p (-1) ((s.th p).found++[(ldL s.cells (annB s.c (s.th p).pos))]) e),pc:=60}) (fun h=>h.elim hl1 (fun h=>h.2 hl3))]
       exact LJp
      ·have lP:=Yh (q:=fun e=>drpB s.c.p (-1) ((s.th p).found++[(ldL s.cells (annB s.c (s.th p).pos))]) e) (k:=(s.th p).buf.length) l2
       rw [List.take_length] at lP
       rw [Xiu h1 hk5 h0 hwl,Qr (c:=s.c) (t:={s.th p with found:=((s.th p).found++[(ldL s.cells (annB s.c (s.th p).pos))]),pos:=(s.th p).pos+1,buf:=((s.th p).buf.filter fun e=>!drpB s.c.p (-1) ((s.th p).found++[(ldL s.cells (annB s.c (s.th p).pos))]) e),work:=(s.th p).work++((s.th p).buf.filter fun e=>drpB s.c.p (-1) ((s.th p).found++[(ldL s.cells (annB s.c (s.th p).pos))]) e),pc:=60}) (Or.inr ⟨hl2,hl3⟩)]
       exact LJp
    ·have lP:=Yh (q:=fun e=>drpB s.c.p (-1) ((s.th p).found++[(ldL s.cells (annB s.c (s.th p).pos))]) e) (k:=(s.th p).buf.length) l2
     rw [List.take_length] at lP
     rw [Xsw h1 hk5 h0 hwl]
     exact LJp
   ·by_cases hwl:(s.th p).work.length+((s.th p).buf.filter fun e=>drpB s.c.p (s.th p).op.key ((s.th p).found++[(ldL s.cells (annB s.c (s.th p).pos))]) e).length=0
    ·by_cases hl1:((s.th p).limbo.length:Int)≥2*s.c.th+s.c.b
     ·have lP:=Yh (q:=fun e=>drpB s.c.p (s.th p).op.key ((s.th p).found++[(ldL s.cells (annB s.c (s.th p).pos))]) e) (k:=(s.th p).buf.length) l2
      rw [List.take_length] at lP
      rw [Xm7 h1 hk5 h0 hwl,Qr (c:=s.c) (t:={s.th p with found:=((s.th p).found++[(ldL s.cells (annB s.c (s.th p).pos))]),pos:=(s.th p).pos+1,buf:=((s.th p).buf.filter fun e=>!drpB s.c.p (s.th p).op.key ((s.th p).found++[(ldL s.cells (annB s.c (s.th p).pos))]) e),work:=(s.th p).work++((s.th p).buf.filter fun e=>drpB s.c.p (s.th p).op.key ((s.th p).found++[(ldL s.cells (annB s.c (s.th p).pos))]) e),pc:=60}) (Or.inl hl1)]
      exact LJp
     ·have hl2:=hk5
      have lP:=Yh (q:=fun e=>drpB s.c.p (s.th p).op.key ((s.th p).found++[(ldL s.cells (annB s.c (s.th p).pos))]) e) (k:=(s.th p).buf.length) l2
      rw [List.take_length] at lP
      rw [Xm7 h1 hk5 h0 hwl,Xbt (c:=s.c) (t:={s.th p with found:=((s.th p).found++[(ldL s.cells (annB s.c (s.th p).pos))]),pos:=(s.th p).pos+1,buf:=((s.th p).buf.filter fun e=>!drpB s.c.p (s.th p).op.key ((s.th p).found++[(ldL s.cells (annB s.c (s.th p).pos))]) e),work:=(s.th p).work++((s.th p).buf.filter fun e=>drpB s.c.p (s.th p).op.key ((s.th p).found++[(ldL s.cells (annB s.c (s.th p).pos))]) e),pc:=60}) (fun h=>h.elim hl1 (fun h=>hl2 h.1))]
      exact LJp
    ·have lP:=Yh (q:=fun e=>drpB s.c.p (s.th p).op.key ((s.th p).found++[(ldL s.cells (annB s.c (s.th p).pos))]) e) (k:=(s.th p).buf.length) l2
     rw [List.take_length] at lP
     rw [Xsv h1 hk5 h0 hwl]
     exact LJp
end Go.Proofs.YtbploohjimpcaaaGreat.A
