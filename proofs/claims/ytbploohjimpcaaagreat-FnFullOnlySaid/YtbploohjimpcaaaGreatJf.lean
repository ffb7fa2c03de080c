/- What the program's functions answer (Jf): no condition. -/
import Derived.Test.YtbploohjimpcaaaGreatGl
set_option linter.unusedVariables false
set_option linter.unusedSimpArgs false
namespace Go.Proofs.YtbploohjimpcaaaGreat.A
open Go Go.Abs
set_option maxRecDepth 100000
set_option maxHeartbeats 16000000
theorem I_30 {n:Nat} {s:Sta} {p:Nat} (hs:staB s=true) (hr:s.room) (hi:s.i64) (hp:p<s.ths.length) (h:(s.th p).pc=30):IK (n+30) s p 251 308 []:=by
 unfold IK;rw [Xa]
 obtain ⟨H,_,_,T6,_,hcf,_,_,_,_,_,_,_,_,_,r1,hL,_,_,w0,w1,w2,w3,_,hcl,_,_,_,_,_,_,x8⟩:=pre hs hr hi hp h (by decide)
 rw [stv,st30 h]
 have st1:=r1
 unfold sk30
 have k1:ldL s.cells 1=cl s 1:=by rw [Xb0,if_pos (by omega)];rfl
 by_cases hch:cl s 1≥s.c.cap
 ·rw [if_pos hch]
  exact LJk1
 ·rw [if_neg hch]
  exact LJk1
theorem I_31 {n:Nat} {s:Sta} {p:Nat} (hs:staB s=true) (hr:s.room) (hi:s.i64) (hp:p<s.ths.length) (h:(s.th p).pc=31) (hx:0≤(s.th p).seen∧(s.th p).seen<s.c.cap):IK (n+30) s p 251 308 []:=by
 unfold IK;rw [Xa]
 obtain ⟨H,_,_,T6,_,hcf,_,_,_,_,_,_,_,_,_,r1,hL,_,_,w0,w1,w2,w3,_,hcl,_,_,_,_,_,_,x8⟩:=pre hs hr hi hp h (by decide)
 rw [stv,st31 h]
 have st1:=r1
 unfold sk31
 have sa:0≤(1:Int)∧(1:Int)<(s.cells.length:Int):=⟨by omega,by omega⟩
 by_cases he:cl s 1=(s.th p).seen
 ·have hgi:(s.th p).seen.toNat<s.gens.length:=by omega
  have hgn:=H.gn _ hgi
  have hi62:0≤(s.th p).seen∧(s.th p).seen≤62:=by omega
  have wq:IntKind.i64.wrap ((s.th p).seen+1)=(s.th p).seen+1:=Xc (by omega) (by omega)
  have hch:¬cl s 1=(s.th p).seen+1:=by omega
  rw [if_pos he,Xo sa hch]
  exact LJq
 ·rw [if_neg he,Qq]
  exact LJ
theorem I_32 {n:Nat} {s:Sta} {p:Nat} (hs:staB s=true) (hr:s.room) (hi:s.i64) (hp:p<s.ths.length) (h:(s.th p).pc=32):IK (n+30) s p 251 308 []:=by
 unfold IK;rw [Xa]
 obtain ⟨H,_,_,T6,_,hcf,_,_,_,_,_,_,_,_,_,r1,hL,_,_,w0,w1,w2,w3,_,hcl,_,_,_,_,_,_,x8⟩:=pre hs hr hi hp h (by decide)
 rw [stv,st32 h]
 have st1:=r1
 unfold sk32
 have hu6:I64 (s.th p).node:=T6.1
 have hv6:=Xy hu6
 have hf:(0:Int)≤1∧(1:Int)≤2:=by omega
 by_cases hc:curB s (unmk (s.th p).node)=true
 ·have hx4:=Wa H hc
  have hnd:=Z9 H hc hf
  have sa:=hnd
  by_cases hch:cl s (ncB s.c (idxB (unmk (s.th p).node)) 1)=(s.th p).op.v
  ·rw [X4 hc,Xu hc,Xs sa hch]
   exact LJ
  ·rw [X4 hc,Xu hc,Xo sa hch]
   exact LJ
 ·have hcn:curB s (unmk (s.th p).node)=false:=by simpa only [Bool.not_eq_true] using hc
  rw [X6 hc,Xw hc,Xbj]
  exact LJ
theorem I_33 {n:Nat} {s:Sta} {p:Nat} (hs:staB s=true) (hr:s.room) (hi:s.i64) (hp:p<s.ths.length) (h:(s.th p).pc=33):IK (n+30) s p 251 308 []:=by
 unfold IK;rw [Xa]
 obtain ⟨H,_,_,T6,_,hcf,_,_,_,_,_,_,_,_,_,r1,hL,_,_,w0,w1,w2,w3,_,hcl,_,_,_,_,_,_,x8⟩:=pre hs hr hi hp h (by decide)
 rw [stv,st33 h]
 have st1:=r1
 unfold sk33
 have hu6:I64 (s.th p).node:=T6.1
 have hv6:=Xy hu6
 have hf:(0:Int)≤0∧(0:Int)≤2:=by omega
 by_cases hc:curB s (unmk (s.th p).node)=true
 ·have hx4:=Wa H hc
  have hnd:=Z9 H hc hf
  have sa:=hnd
  by_cases hch:cl s (ncB s.c (idxB (unmk (s.th p).node)) 0)=0
  ·rw [X4 hc,Xu hc,Xs sa hch]
   exact LJ
  ·rw [X4 hc,Xu hc,Xo sa hch]
   exact LJ
 ·have hcn:curB s (unmk (s.th p).node)=false:=by simpa only [Bool.not_eq_true] using hc
  rw [X6 hc,Xw hc,Xbj]
  exact LJ
theorem I_34 {n:Nat} {s:Sta} {p:Nat} (hs:staB s=true) (hr:s.room) (hi:s.i64) (hp:p<s.ths.length) (h:(s.th p).pc=34):IK (n+30) s p 251 308 []:=by
 unfold IK;rw [Xa]
 obtain ⟨H,_,_,T6,_,hcf,_,_,_,_,_,_,_,_,_,r1,hL,_,_,w0,w1,w2,w3,hpi,hcl,_,_,_,_,_,_,x8⟩:=pre hs hr hi hp h (by decide)
 rw [stv,st34 h]
 have st1:=r1
 unfold sk34
 have hj:(0:Int)≤1∧(1:Int)≤1:=by omega
 by_cases hch:cl s (hazB s.c (p:Int) 1)=(s.th p).node
 ·have sa:=Xj H hpi hj
  rw [Xs (Xj H hpi hj) hch]
  exact LJ
 ·have sa:=Xj H hpi hj
  rw [Xo (Xj H hpi hj) hch]
  exact LJ
theorem I_35 {n:Nat} {s:Sta} {p:Nat} (hs:staB s=true) (hr:s.room) (hi:s.i64) (hp:p<s.ths.length) (h:(s.th p).pc=35):IK (n+30) s p 251 308 []:=by
 unfold IK;rw [Xa]
 obtain ⟨H,_,T,T6,_,hcf,_,_,_,_,_,_,_,hpc0,_,r1,hL,_,_,w0,w1,w2,w3,_,hcl,_,_,_,_,_,_,x8⟩:=pre hs hr hi hp h (by decide)
 rw [stv,st35 h]
 have st1:=r1
 unfold sk35
 have hop:=Vu T hpc0
 have hok:0≤(s.th p).op.key∧(s.th p).op.key<4:=by omega
 have hhd:=Wo H (⟨hop.1,hop.2.1⟩:0≤(s.th p).op.key∧(s.th p).op.key<s.c.keys)
 have hu6:I64 (ldL s.cells (X2 s.c (s.th p).op.key)):=H.ld6 (i:=X2 s.c (s.th p).op.key)
 exact LJ
theorem I_36 {n:Nat} {s:Sta} {p:Nat} (hs:staB s=true) (hr:s.room) (hi:s.i64) (hp:p<s.ths.length) (h:(s.th p).pc=36):IK (n+30) s p 251 308 []:=by
 unfold IK;rw [Xa]
 obtain ⟨H,_,T,T6,_,hcf,_,_,_,_,_,_,_,hpc0,_,r1,hL,_,_,w0,w1,w2,w3,hpi,hcl,_,_,_,_,_,_,x8⟩:=pre hs hr hi hp h (by decide)
 rw [stv,st36 h]
 have st1:=r1
 unfold sk36
 have hop:=Vu T hpc0
 have hok:0≤(s.th p).op.key∧(s.th p).op.key<4:=by omega
 have hhd:=Wo H (⟨hop.1,hop.2.1⟩:0≤(s.th p).op.key∧(s.th p).op.key<s.c.keys)
 have hj:(0:Int)≤0∧(0:Int)≤1:=by omega
 by_cases hch:cl s (hazB s.c (p:Int) 0)=(s.th p).curr
 ·have sa:=Xj H hpi hj
  rw [Xs (Xj H hpi hj) hch]
  exact LJ
 ·have sa:=Xj H hpi hj
  rw [Xo (Xj H hpi hj) hch]
  exact LJ
end Go.Proofs.YtbploohjimpcaaaGreat.A
