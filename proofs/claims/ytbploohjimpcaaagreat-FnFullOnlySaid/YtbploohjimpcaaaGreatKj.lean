/- What the program's functions answer (Kj): no condition. -/
import Derived.Test.YtbploohjimpcaaaGreatGl
set_option linter.unusedVariables false
set_option linter.unusedSimpArgs false
namespace Go.Proofs.YtbploohjimpcaaaGreat.A
open Go Go.Abs
set_option maxRecDepth 100000
set_option maxHeartbeats 16000000
theorem R_39 {n:Nat} {s:Sta} {p:Nat} (hs:staB s=true) (hr:s.room) (hi:s.i64) (hp:p<s.ths.length) (h:(s.th p).pc=39):RK (n+15) s p:=by
 unfold RK;rw [Xa]
 obtain ⟨H,_,T,T6,_,hcf,_,_,_,_,_,_,_,hpc0,_,r1,hL,_,_,w0,w1,w2,w3,_,hcl,_,_,_,_,_,_,x8⟩:=pre hs hr hi hp h (by decide)
 rw [stv,st39 h]
 have st1:=r1
 unfold sk39
 have hop:=Vu T hpc0
 have hok:0≤(s.th p).op.key∧(s.th p).op.key<4:=by omega
 have hhd:=Wo H (⟨hop.1,hop.2.1⟩:0≤(s.th p).op.key∧(s.th p).op.key<s.c.keys)
 have sa:0≤(0:Int)∧(0:Int)<(s.cells.length:Int):=⟨by omega,by omega⟩
 exact LK
theorem R_40 {n:Nat} {s:Sta} {p:Nat} (hs:staB s=true) (hr:s.room) (hi:s.i64) (hp:p<s.ths.length) (h:(s.th p).pc=40):RK (n+15) s p:=by
 unfold RK;rw [Xa]
 obtain ⟨H,_,T,T6,_,hcf,_,_,_,_,_,_,_,hpc0,_,r1,hL,_,_,w0,w1,w2,w3,_,hcl,_,_,_,_,_,_,x8⟩:=pre hs hr hi hp h (by decide)
 rw [stv,st40 h]
 have st1:=r1
 unfold sk40
 have hop:=Vu T hpc0
 have hok:0≤(s.th p).op.key∧(s.th p).op.key<4:=by omega
 have hhd:=Wo H (⟨hop.1,hop.2.1⟩:0≤(s.th p).op.key∧(s.th p).op.key<s.c.keys)
 have hu6:I64 (s.th p).curr:=T6.2.2.1
 have hv6:=Xy hu6
 have hf:(0:Int)≤0∧(0:Int)≤2:=by omega
 by_cases hc:curB s (unmk (s.th p).curr)=true
 ·have hx4:=Wa H hc
  have hnd:=Z9 H hc hf
  have hxi:=Y3 (Vi hc)
  have q1:=Wz hc
  have qg:=W0 hc
  have sa:=hnd
  by_cases he:cl s ((ncB s.c (idxB (unmk (s.th p).curr)) 0))=0
  ·by_cases hch:cl s ((ncB s.c (idxB (unmk (s.th p).curr)) 0))=(s.th p).seen
   ·rw [X4 hc,Xu hc,Un sa he,Xs sa hch]
    exact LK
   ·rw [X4 hc,Xu hc,Un sa he,Xo sa hch]
    exact LK
  ·rw [X4 hc,Xu hc,Xf2 he]
   exact LK
 ·rcases Qj hc with q1 | ⟨q1,q0⟩ | ⟨q1,q3,q0⟩
  ·rw [X6 hc,Xw hc,Xbk]
   exact LK
  ·rw [X6 hc,Xw hc,Xbk]
   exact LK
  ·have hnn:=Qk q1
   rw [X6 hc,Xw hc,Xbk]
   exact LK
theorem R_41 {n:Nat} {s:Sta} {p:Nat} (hs:staB s=true) (hr:s.room) (hi:s.i64) (hp:p<s.ths.length) (h:(s.th p).pc=41):RK (n+15) s p:=by
 unfold RK;rw [Xa]
 obtain ⟨H,_,T,T6,_,hcf,_,_,_,_,_,_,_,hpc0,_,r1,hL,_,_,w0,w1,w2,w3,_,hcl,_,_,_,_,_,_,x8⟩:=pre hs hr hi hp h (by decide)
 rw [stv,st41 h]
 have st1:=r1
 unfold sk41
 have hop:=Vu T hpc0
 have hok:0≤(s.th p).op.key∧(s.th p).op.key<4:=by omega
 have hhd:=Wo H (⟨hop.1,hop.2.1⟩:0≤(s.th p).op.key∧(s.th p).op.key<s.c.keys)
 have hu6:I64 (s.th p).node:=T6.1
 have hv6:=Xy hu6
 have hf:(0:Int)≤2∧(2:Int)≤2:=by omega
 by_cases hc:curB s (unmk (s.th p).node)=true
 ·have hx4:=Wa H hc
  have hnd:=Z9 H hc hf
  have hxi:=Y3 (Vi hc)
  have q1:=Wz hc
  have qg:=W0 hc
  have sa:=hnd
  by_cases hch:cl s ((ncB s.c (idxB (unmk (s.th p).node)) 2))=(s.th p).curr
  ·rw [X4 hc,Xu hc,Xs sa hch]
   exact LK
  ·rw [X4 hc,Xu hc,Xo sa hch]
   exact LK
 ·rcases Qj hc with q1 | ⟨q1,q0⟩ | ⟨q1,q3,q0⟩
  ·rw [X6 hc,Xw hc,Xbj]
   exact LK
  ·rw [X6 hc,Xw hc,Xbj]
   exact LK
  ·have hnn:=Qk q1
   rw [X6 hc,Xw hc,Xbj]
   exact LK
theorem R_42 {n:Nat} {s:Sta} {p:Nat} (hs:staB s=true) (hr:s.room) (hi:s.i64) (hp:p<s.ths.length) (h:(s.th p).pc=42):RK (n+15) s p:=by
 unfold RK;rw [Xa]
 obtain ⟨H,_,T,T6,_,hcf,_,_,_,_,_,_,_,hpc0,_,r1,hL,_,_,w0,w1,w2,w3,_,hcl,_,_,_,_,_,_,x8⟩:=pre hs hr hi hp h (by decide)
 rw [stv,st42 h]
 have st1:=r1
 unfold sk42
 have hop:=Vu T hpc0
 have hok:0≤(s.th p).op.key∧(s.th p).op.key<4:=by omega
 have hhd:=Wo H (⟨hop.1,hop.2.1⟩:0≤(s.th p).op.key∧(s.th p).op.key<s.c.keys)
 have sa:=hhd
 by_cases he:cl s (X2 s.c (s.th p).op.key)=(s.th p).curr
 ·by_cases hch:cl s (X2 s.c (s.th p).op.key)=(s.th p).node
  ·rw [if_pos (Yl sa he),Xs sa hch]
   exact LK
  ·rw [if_pos (Yl sa he),Xo sa hch]
   exact LK
 ·rw [if_neg (Xdk he),Qq]
  exact LK
theorem R_43 {n:Nat} {s:Sta} {p:Nat} (hs:staB s=true) (hr:s.room) (hi:s.i64) (hp:p<s.ths.length) (h:(s.th p).pc=43):RK (n+15) s p:=by
 unfold RK;rw [Xa]
 obtain ⟨H,_,_,T6,_,hcf,_,_,_,_,_,_,_,_,_,r1,hL,_,_,w0,w1,w2,w3,_,hcl,_,_,_,_,_,_,x8⟩:=pre hs hr hi hp h (by decide)
 rw [stv,st43 h]
 have st1:=r1
 unfold sk43
 have sa:0≤(0:Int)∧(0:Int)<(s.cells.length:Int):=⟨by omega,by omega⟩
 exact LK
theorem R_44 {n:Nat} {s:Sta} {p:Nat} (hs:staB s=true) (hr:s.room) (hi:s.i64) (hp:p<s.ths.length) (h:(s.th p).pc=44):RK (n+15) s p:=by
 unfold RK;rw [Xa]
 obtain ⟨H,_,_,T6,_,hcf,_,_,_,_,_,_,_,_,_,r1,hL,_,_,w0,w1,w2,w3,_,hcl,_,_,_,_,_,_,x8⟩:=pre hs hr hi hp h (by decide)
 rw [stv,st44 h]
 have st1:=r1
 unfold sk44
 have hu6:I64 (s.th p).node:=T6.1
 have hv6:=Xy hu6
 have hf:(0:Int)≤0∧(0:Int)≤2:=by omega
 by_cases hc:curB s (unmk (s.th p).node)=true
 ·have hx4:=Wa H hc
  have hnd:=Z9 H hc hf
  have hxi:=Y3 (Vi hc)
  have q1:=Wz hc
  have qg:=W0 hc
  have sa:=hnd
  by_cases he:cl s ((ncB s.c (idxB (unmk (s.th p).node)) 0))=0
  ·by_cases hch:cl s ((ncB s.c (idxB (unmk (s.th p).node)) 0))=(s.th p).seen
   ·rw [X4 hc,Xu hc,Un sa he,Xs sa hch]
    exact LK
   ·rw [X4 hc,Xu hc,Un sa he,Xo sa hch]
    exact LK
  ·rw [X4 hc,Xu hc,Xf2 he]
   exact LK
 ·rcases Qj hc with q1 | ⟨q1,q0⟩ | ⟨q1,q3,q0⟩
  ·rw [X6 hc,Xw hc,Xbk]
   exact LK
  ·rw [X6 hc,Xw hc,Xbk]
   exact LK
  ·have hnn:=Qk q1
   rw [X6 hc,Xw hc,Xbk]
   exact LK
theorem R_46 {n:Nat} {s:Sta} {p:Nat} (hs:staB s=true) (hr:s.room) (hi:s.i64) (hp:p<s.ths.length) (h:(s.th p).pc=46):RK (n+15) s p:=by
 unfold RK;rw [Xa]
 obtain ⟨H,_,_,T6,_,hcf,_,_,_,_,_,_,_,_,_,r1,hL,_,_,w0,w1,w2,w3,hpi,hcl,_,_,_,_,_,_,x8⟩:=pre hs hr hi hp h (by decide)
 rw [stv,st46 h]
 have st1:=r1
 unfold sk46
 have hj:(0:Int)≤0∧(0:Int)≤1:=by omega
 by_cases hch:cl s (hazB s.c (p:Int) 0)=0
 ·have sa:=Xj H hpi hj
  rw [Xs (Xj H hpi hj) hch]
  exact LK
 ·have sa:=Xj H hpi hj
  rw [Xo (Xj H hpi hj) hch]
  exact LK
theorem R_47 {n:Nat} {s:Sta} {p:Nat} (hs:staB s=true) (hr:s.room) (hi:s.i64) (hp:p<s.ths.length) (h:(s.th p).pc=47):RK (n+15) s p:=by
 unfold RK;rw [Xa]
 obtain ⟨H,_,_,T6,_,hcf,_,_,_,_,_,_,_,_,_,r1,hL,_,_,w0,w1,w2,w3,hpi,hcl,hro,_,_,_,_,_,x8⟩:=pre hs hr hi hp h (by decide)
 rw [stv,st47 h]
 have st1:=r1
 unfold sk47
 have hbl:(s.th p).buf.length≤1048576:=hro.2.2.1
 have hj:(0:Int)≤1∧(1:Int)≤1:=by omega
 by_cases hch:cl s (hazB s.c (p:Int) 1)=0
 ·by_cases hm:Xin s.c (s.th p)=true
  ·have sa:=Xj H hpi hj
   rw [Xs (Xj H hpi hj) hch,if_pos hm]
   exact LK
  ·have sa:=Xj H hpi hj
   rw [Xs (Xj H hpi hj) hch,if_neg hm]
   exact LK
 ·by_cases hm:Xin s.c (s.th p)=true
  ·have sa:=Xj H hpi hj
   rw [Xo (Xj H hpi hj) hch,if_pos hm]
   exact LK
  ·have sa:=Xj H hpi hj
   rw [Xo (Xj H hpi hj) hch,if_neg hm]
   exact LK
end Go.Proofs.YtbploohjimpcaaaGreat.A
