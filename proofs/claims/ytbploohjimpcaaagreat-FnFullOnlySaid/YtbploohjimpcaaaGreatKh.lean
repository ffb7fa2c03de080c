/- What the program's functions answer (Kh): no condition. -/
import Derived.Test.YtbploohjimpcaaaGreatGl
set_option linter.unusedVariables false
set_option linter.unusedSimpArgs false
namespace Go.Proofs.YtbploohjimpcaaaGreat.A
open Go Go.Abs
set_option maxRecDepth 100000
set_option maxHeartbeats 16000000
theorem R_16 {n:Nat} {s:Sta} {p:Nat} (hs:staB s=true) (hr:s.room) (hi:s.i64) (hp:p<s.ths.length) (h:(s.th p).pc=16):RK (n+15) s p:=by
 unfold RK;rw [Xa]
 obtain ⟨H,_,_,T6,_,hcf,_,_,_,_,_,_,_,_,_,r1,hL,_,_,w0,w1,w2,w3,_,hcl,_,_,_,_,_,_,x8⟩:=pre hs hr hi hp h (by decide)
 rw [stv,st16 h]
 have st1:=r1
 unfold sk16
 have hu6:I64 (s.th p).curr:=T6.2.2.1
 have hv6:=Xy hu6
 have hf:(0:Int)≤0∧(0:Int)≤2:=by omega
 by_cases hc:curB s (unmk (s.th p).curr)=true
 ·have hx4:=Wa H hc
  have hnd:=Z9 H hc hf
  have hxi:=Y3 (Vi hc)
  have q1:=Wz hc
  have qg:=W0 hc
  have sa:=hnd
  by_cases he:(cl s ((ncB s.c (idxB (unmk (s.th p).curr)) 0)))=0
  ·rw [X4 hc,Xu hc,Zl hnd,if_pos he]
   exact LK
  ·by_cases hl:(cl s ((ncB s.c (idxB (unmk (s.th p).curr)) 0)))≤(s.th p).snap
   ·rw [X4 hc,Xu hc,Zl hnd,if_neg he,if_pos hl]
    exact LK
   ·rw [X4 hc,Xu hc,Zl hnd,if_neg he,if_neg hl]
    exact LK
 ·rcases Qj hc with q1 | ⟨q1,q0⟩ | ⟨q1,q3,q0⟩
  ·rw [X6 hc,Xw hc,Wi,if_pos rfl]
   exact LK
  ·rw [X6 hc,Xw hc,Wi,if_pos rfl]
   exact LK
  ·have hnn:=Qk q1
   rw [X6 hc,Xw hc,Wi,if_pos rfl]
   exact LK
theorem R_18 {n:Nat} {s:Sta} {p:Nat} (hs:staB s=true) (hr:s.room) (hi:s.i64) (hp:p<s.ths.length) (h:(s.th p).pc=18):RK (n+15) s p:=by
 unfold RK;rw [Xa]
 obtain ⟨H,_,_,T6,_,hcf,_,_,_,_,_,_,_,_,_,r1,hL,_,_,w0,w1,w2,w3,_,hcl,_,_,_,_,_,_,x8⟩:=pre hs hr hi hp h (by decide)
 rw [stv,st18 h]
 have st1:=r1
 unfold sk18
 have hu6:I64 (s.th p).curr:=T6.2.2.1
 have hv6:=Xy hu6
 have hf:(0:Int)≤0∧(0:Int)≤2:=by omega
 by_cases hc:curB s (unmk (s.th p).curr)=true
 ·have hx4:=Wa H hc
  have hnd:=Z9 H hc hf
  have hxi:=Y3 (Vi hc)
  have q1:=Wz hc
  have qg:=W0 hc
  have sa:=hnd
  by_cases he:cl s ((ncB s.c (idxB (unmk (s.th p).curr)) 0))=0
  ·by_cases hch:cl s ((ncB s.c (idxB (unmk (s.th p).curr)) 0))=(s.th p).seen
   ·rw [X4 hc,Xu hc,Un sa he,Xs sa hch]
    exact LK
   ·rw [X4 hc,Xu hc,Un sa he,Xo sa hch]
    exact LK
  ·rw [X4 hc,Xu hc,Xf2 he]
   exact LK
 ·rcases Qj hc with q1 | ⟨q1,q0⟩ | ⟨q1,q3,q0⟩
  ·rw [X6 hc,Xw hc,Xbk]
   exact LK
  ·rw [X6 hc,Xw hc,Xbk]
   exact LK
  ·have hnn:=Qk q1
   rw [X6 hc,Xw hc,Xbk]
   exact LK
theorem R_19 {n:Nat} {s:Sta} {p:Nat} (hs:staB s=true) (hr:s.room) (hi:s.i64) (hp:p<s.ths.length) (h:(s.th p).pc=19):RK (n+15) s p:=by
 unfold RK;rw [Xa]
 obtain ⟨H,_,_,T6,_,hcf,_,_,_,_,_,_,_,_,_,r1,hL,_,_,w0,w1,w2,w3,_,hcl,_,_,_,_,_,_,x8⟩:=pre hs hr hi hp h (by decide)
 rw [stv,st19 h]
 have st1:=r1
 unfold sk19
 have hu6:I64 (s.th p).curr:=T6.2.2.1
 have hv6:=Xy hu6
 have hf:(0:Int)≤1∧(1:Int)≤2:=by omega
 by_cases hc:curB s (unmk (s.th p).curr)=true
 ·have hx4:=Wa H hc
  have hnd:=Z9 H hc hf
  have hxi:=Y3 (Vi hc)
  have q1:=Wz hc
  have qg:=W0 hc
  have sa:=hnd
  rw [X4 hc,Xu hc,Zl hnd]
  exact LK
 ·rcases Qj hc with q1 | ⟨q1,q0⟩ | ⟨q1,q3,q0⟩
  ·rw [X6 hc,Xw hc,Wi]
   exact LK
  ·rw [X6 hc,Xw hc,Wi]
   exact LK
  ·have hnn:=Qk q1
   rw [X6 hc,Xw hc,Wi]
   exact LK
theorem R_20 {n:Nat} {s:Sta} {p:Nat} (hs:staB s=true) (hr:s.room) (hi:s.i64) (hp:p<s.ths.length) (h:(s.th p).pc=20):RK (n+15) s p:=by
 unfold RK;rw [Xa]
 obtain ⟨H,_,_,T6,_,hcf,_,_,_,_,_,_,_,_,_,r1,hL,_,_,w0,w1,w2,w3,hpi,hcl,_,_,_,_,_,_,x8⟩:=pre hs hr hi hp h (by decide)
 rw [stv,st20 h]
 have st1:=r1
 unfold sk20
 have hj:(0:Int)≤0∧(0:Int)≤1:=by omega
 by_cases hch:cl s (hazB s.c (p:Int) 0)=0
 ·have sa:=Xj H hpi hj
  rw [Xs (Xj H hpi hj) hch]
  exact LK
 ·have sa:=Xj H hpi hj
  rw [Xo (Xj H hpi hj) hch]
  exact LK
theorem R_21 {n:Nat} {s:Sta} {p:Nat} (hs:staB s=true) (hr:s.room) (hi:s.i64) (hp:p<s.ths.length) (h:(s.th p).pc=21):RK (n+15) s p:=by
 unfold RK;rw [Xa]
 obtain ⟨H,_,_,T6,_,hcf,_,_,_,_,_,_,_,_,_,r1,hL,_,_,w0,w1,w2,w3,hpi,hcl,_,_,_,_,_,_,x8⟩:=pre hs hr hi hp h (by decide)
 rw [stv,st21 h]
 have st1:=r1
 unfold sk21
 have hj:(0:Int)≤1∧(1:Int)≤1:=by omega
 by_cases hch:cl s (hazB s.c (p:Int) 1)=0
 ·have sa:=Xj H hpi hj
  rw [Xs (Xj H hpi hj) hch]
  exact LK
 ·have sa:=Xj H hpi hj
  rw [Xo (Xj H hpi hj) hch]
  exact LK
theorem R_30 {n:Nat} {s:Sta} {p:Nat} (hs:staB s=true) (hr:s.room) (hi:s.i64) (hp:p<s.ths.length) (h:(s.th p).pc=30):RK (n+15) s p:=by
 unfold RK;rw [Xa]
 obtain ⟨H,_,_,T6,_,hcf,_,_,_,_,_,_,_,_,_,r1,hL,_,_,w0,w1,w2,w3,_,hcl,_,_,_,_,_,_,x8⟩:=pre hs hr hi hp h (by decide)
 rw [stv,st30 h]
 have st1:=r1
 unfold sk30
 by_cases hch:cl s 1≥s.c.cap
 ·have sa:0≤(1:Int)∧(1:Int)<(s.cells.length:Int):=⟨by omega,by omega⟩
  rw [if_pos hch]
  exact LK
 ·have sa:0≤(1:Int)∧(1:Int)<(s.cells.length:Int):=⟨by omega,by omega⟩
  rw [if_neg hch]
  exact LK
theorem R_31 {n:Nat} {s:Sta} {p:Nat} (hs:staB s=true) (hr:s.room) (hi:s.i64) (hp:p<s.ths.length) (h:(s.th p).pc=31) (hx:0≤(s.th p).seen∧(s.th p).seen<s.c.cap):RK (n+15) s p:=by
 unfold RK;rw [Xa]
 obtain ⟨H,_,_,T6,_,hcf,_,_,_,_,_,_,_,_,_,r1,hL,_,_,w0,w1,w2,w3,_,hcl,_,_,_,_,_,_,x8⟩:=pre hs hr hi hp h (by decide)
 rw [stv,st31 h]
 have st1:=r1
 unfold sk31
 have sa:0≤(1:Int)∧(1:Int)<(s.cells.length:Int):=⟨by omega,by omega⟩
 have wc:IntKind.i64.wrap (s.c.cap - 1)=s.c.cap - 1:=Xc (by omega) (by omega)
 by_cases he:cl s 1=(s.th p).seen
 ·have hgi:(s.th p).seen.toNat<s.gens.length:=by omega
  have hgn:=H.gn _ hgi
  have hi62:0≤(s.th p).seen∧(s.th p).seen≤62:=by omega
  have wq:IntKind.i64.wrap ((s.th p).seen+1)=(s.th p).seen+1:=Xc (by omega) (by omega)
  have hch:¬cl s 1=(s.th p).seen+1:=by omega
  rw [if_pos he,Xo sa hch]
  exact LKq
 ·rw [if_neg he,Qq]
  exact LK
end Go.Proofs.YtbploohjimpcaaaGreat.A
