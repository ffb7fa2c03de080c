/- What the program's functions answer (Ki): no condition. -/
import Derived.Test.YtbploohjimpcaaaGreatGl
set_option linter.unusedVariables false
set_option linter.unusedSimpArgs false
namespace Go.Proofs.YtbploohjimpcaaaGreat.A
open Go Go.Abs
set_option maxRecDepth 100000
set_option maxHeartbeats 16000000
theorem R_32 {n:Nat} {s:Sta} {p:Nat} (hs:staB s=true) (hr:s.room) (hi:s.i64) (hp:p<s.ths.length) (h:(s.th p).pc=32):RK (n+15) s p:=by
 unfold RK;rw [Xa]
 obtain ⟨H,_,_,T6,_,hcf,_,_,_,_,_,_,_,_,_,r1,hL,_,_,w0,w1,w2,w3,_,hcl,_,_,_,_,_,_,x8⟩:=pre hs hr hi hp h (by decide)
 rw [stv,st32 h]
 have st1:=r1
 unfold sk32
 have hu6:I64 (s.th p).node:=T6.1
 have hv6:=Xy hu6
 have hf:(0:Int)≤1∧(1:Int)≤2:=by omega
 by_cases hc:curB s (unmk (s.th p).node)=true
 ·have hx4:=Wa H hc
  have hnd:=Z9 H hc hf
  have hxi:=Y3 (Vi hc)
  have q1:=Wz hc
  have qg:=W0 hc
  have sa:=hnd
  by_cases hch:cl s ((ncB s.c (idxB (unmk (s.th p).node)) 1))=(s.th p).op.v
  ·rw [X4 hc,Xu hc,Xs sa hch]
   exact LK
  ·rw [X4 hc,Xu hc,Xo sa hch]
   exact LK
 ·rcases Qj hc with q1 | ⟨q1,q0⟩ | ⟨q1,q3,q0⟩
  ·rw [X6 hc,Xw hc,Xbj]
   exact LK
  ·rw [X6 hc,Xw hc,Xbj]
   exact LK
  ·have hnn:=Qk q1
   rw [X6 hc,Xw hc,Xbj]
   exact LK
theorem R_33 {n:Nat} {s:Sta} {p:Nat} (hs:staB s=true) (hr:s.room) (hi:s.i64) (hp:p<s.ths.length) (h:(s.th p).pc=33):RK (n+15) s p:=by
 unfold RK;rw [Xa]
 obtain ⟨H,_,_,T6,_,hcf,_,_,_,_,_,_,_,_,_,r1,hL,_,_,w0,w1,w2,w3,_,hcl,_,_,_,_,_,_,x8⟩:=pre hs hr hi hp h (by decide)
 rw [stv,st33 h]
 have st1:=r1
 unfold sk33
 have hu6:I64 (s.th p).node:=T6.1
 have hv6:=Xy hu6
 have hf:(0:Int)≤0∧(0:Int)≤2:=by omega
 by_cases hc:curB s (unmk (s.th p).node)=true
 ·have hx4:=Wa H hc
  have hnd:=Z9 H hc hf
  have hxi:=Y3 (Vi hc)
  have q1:=Wz hc
  have qg:=W0 hc
  have sa:=hnd
  by_cases hch:cl s ((ncB s.c (idxB (unmk (s.th p).node)) 0))=0
  ·rw [X4 hc,Xu hc,Xs sa hch]
   exact LK
  ·rw [X4 hc,Xu hc,Xo sa hch]
   exact LK
 ·rcases Qj hc with q1 | ⟨q1,q0⟩ | ⟨q1,q3,q0⟩
  ·rw [X6 hc,Xw hc,Xbj]
   exact LK
  ·rw [X6 hc,Xw hc,Xbj]
   exact LK
  ·have hnn:=Qk q1
   rw [X6 hc,Xw hc,Xbj]
   exact LK
theorem R_34 {n:Nat} {s:Sta} {p:Nat} (hs:staB s=true) (hr:s.room) (hi:s.i64) (hp:p<s.ths.length) (h:(s.th p).pc=34):RK (n+15) s p:=by
 unfold RK;rw [Xa]
 obtain ⟨H,_,_,T6,_,hcf,_,_,_,_,_,_,_,_,_,r1,hL,_,_,w0,w1,w2,w3,hpi,hcl,_,_,_,_,_,_,x8⟩:=pre hs hr hi hp h (by decide)
 rw [stv,st34 h]
 have st1:=r1
 unfold sk34
 have hj:(0:Int)≤1∧(1:Int)≤1:=by omega
 by_cases hch:cl s (hazB s.c (p:Int) 1)=(s.th p).node
 ·have sa:=Xj H hpi hj
  rw [Xs (Xj H hpi hj) hch]
  exact LK
 ·have sa:=Xj H hpi hj
  rw [Xo (Xj H hpi hj) hch]
  exact LK
theorem R_35 {n:Nat} {s:Sta} {p:Nat} (hs:staB s=true) (hr:s.room) (hi:s.i64) (hp:p<s.ths.length) (h:(s.th p).pc=35):RK (n+15) s p:=by
 unfold RK;rw [Xa]
 obtain ⟨H,_,T,T6,_,hcf,_,_,_,_,_,_,_,hpc0,_,r1,hL,_,_,w0,w1,w2,w3,_,hcl,_,_,_,_,_,_,x8⟩:=pre hs hr hi hp h (by decide)
 rw [stv,st35 h]
 have st1:=r1
 unfold sk35
 have hop:=Vu T hpc0
 have hok:0≤(s.th p).op.key∧(s.th p).op.key<4:=by omega
 have hhd:=Wo H (⟨hop.1,hop.2.1⟩:0≤(s.th p).op.key∧(s.th p).op.key<s.c.keys)
 have sa:=hhd
 have hu6:I64 (cl s (X2 s.c (s.th p).op.key)):=H.cl6 (i:=X2 s.c (s.th p).op.key)
 by_cases h0:unmk (cl s (X2 s.c (s.th p).op.key))=0
 ·rw [Zl hhd,if_pos h0]
  exact LK
 ·rw [Zl hhd,if_neg h0]
  exact LK
theorem R_36 {n:Nat} {s:Sta} {p:Nat} (hs:staB s=true) (hr:s.room) (hi:s.i64) (hp:p<s.ths.length) (h:(s.th p).pc=36):RK (n+15) s p:=by
 unfold RK;rw [Xa]
 obtain ⟨H,_,T,T6,_,hcf,_,_,_,_,_,_,_,hpc0,_,r1,hL,_,_,w0,w1,w2,w3,hpi,hcl,_,_,_,_,_,_,x8⟩:=pre hs hr hi hp h (by decide)
 rw [stv,st36 h]
 have st1:=r1
 unfold sk36
 have hop:=Vu T hpc0
 have hok:0≤(s.th p).op.key∧(s.th p).op.key<4:=by omega
 have hhd:=Wo H (⟨hop.1,hop.2.1⟩:0≤(s.th p).op.key∧(s.th p).op.key<s.c.keys)
 have hj:(0:Int)≤0∧(0:Int)≤1:=by omega
 by_cases hch:cl s (hazB s.c (p:Int) 0)=(s.th p).curr
 ·have sa:=Xj H hpi hj
  rw [Xs (Xj H hpi hj) hch]
  exact LK
 ·have sa:=Xj H hpi hj
  rw [Xo (Xj H hpi hj) hch]
  exact LK
theorem R_37 {n:Nat} {s:Sta} {p:Nat} (hs:staB s=true) (hr:s.room) (hi:s.i64) (hp:p<s.ths.length) (h:(s.th p).pc=37):RK (n+15) s p:=by
 unfold RK;rw [Xa]
 obtain ⟨H,_,T,T6,_,hcf,_,_,_,_,_,_,_,hpc0,_,r1,hL,_,_,w0,w1,w2,w3,_,hcl,_,_,_,_,_,_,x8⟩:=pre hs hr hi hp h (by decide)
 rw [stv,st37 h]
 have st1:=r1
 unfold sk37
 have hop:=Vu T hpc0
 have hok:0≤(s.th p).op.key∧(s.th p).op.key<4:=by omega
 have hhd:=Wo H (⟨hop.1,hop.2.1⟩:0≤(s.th p).op.key∧(s.th p).op.key<s.c.keys)
 have sa:=hhd
 by_cases he:cl s (X2 s.c (s.th p).op.key)=(s.th p).curr
 ·rw [Zl hhd,if_pos he,Xc5 (decide_eq_true he)]
  exact LK
 ·rw [Zl hhd,if_neg he,Xc6 (by simpa using he)]
  exact LK
theorem R_38 {n:Nat} {s:Sta} {p:Nat} (hs:staB s=true) (hr:s.room) (hi:s.i64) (hp:p<s.ths.length) (h:(s.th p).pc=38):RK (n+15) s p:=by
 unfold RK;rw [Xa]
 obtain ⟨H,_,T,T6,_,hcf,_,_,_,_,_,_,_,hpc0,_,r1,hL,_,_,w0,w1,w2,w3,_,hcl,_,_,_,_,_,_,x8⟩:=pre hs hr hi hp h (by decide)
 rw [stv,st38 h]
 have st1:=r1
 unfold sk38
 have hop:=Vu T hpc0
 have hok:0≤(s.th p).op.key∧(s.th p).op.key<4:=by omega
 have hhd:=Wo H (⟨hop.1,hop.2.1⟩:0≤(s.th p).op.key∧(s.th p).op.key<s.c.keys)
 have hu6:I64 (s.th p).curr:=T6.2.2.1
 have hv6:=Xy hu6
 have hf:(0:Int)≤0∧(0:Int)≤2:=by omega
 by_cases hc:curB s (unmk (s.th p).curr)=true
 ·have hx4:=Wa H hc
  have hnd:=Z9 H hc hf
  have hxi:=Y3 (Vi hc)
  have q1:=Wz hc
  have qg:=W0 hc
  have sa:=hnd
  by_cases he:(cl s ((ncB s.c (idxB (unmk (s.th p).curr)) 0)))=0
  ·rw [X4 hc,Xu hc,Zl hnd,if_pos he]
   exact LK
  ·rw [X4 hc,Xu hc,Zl hnd,if_neg he]
   exact LK
 ·rcases Qj hc with q1 | ⟨q1,q0⟩ | ⟨q1,q3,q0⟩
  ·rw [X6 hc,Xw hc,Wi,if_pos rfl]
   exact LK
  ·rw [X6 hc,Xw hc,Wi,if_pos rfl]
   exact LK
  ·have hnn:=Qk q1
   rw [X6 hc,Xw hc,Wi,if_pos rfl]
   exact LK
end Go.Proofs.YtbploohjimpcaaaGreat.A
