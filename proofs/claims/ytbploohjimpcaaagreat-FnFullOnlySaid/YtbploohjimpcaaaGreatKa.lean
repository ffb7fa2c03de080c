/- What the program's functions answer (Ka): no condition. -/
import Derived.Test.YtbploohjimpcaaaGreatGl
set_option linter.unusedVariables false
set_option linter.unusedSimpArgs false
namespace Go.Proofs.YtbploohjimpcaaaGreat.A
open Go Go.Abs
set_option maxRecDepth 100000
set_option maxHeartbeats 16000000
theorem R_1 {n:Nat} {s:Sta} {p:Nat} (hs:staB s=true) (hr:s.room) (hi:s.i64) (hp:p<s.ths.length) (h:(s.th p).pc=1):RK (n+15) s p:=by
 unfold RK;rw [Xa]
 obtain ⟨H,_,_,T6,_,hcf,_,_,_,_,_,_,_,_,_,r1,hL,_,_,w0,w1,w2,w3,_,hcl,_,_,_,_,_,_,x8⟩:=pre hs hr hi hp h (by decide)
 rw [stv,st1 h]
 have st1:=r1
 unfold sk1
 by_cases hch:cl s 0≥s.c.cm
 ·have sa:0≤(0:Int)∧(0:Int)<(s.cells.length:Int):=⟨by omega,by omega⟩
  rw [if_pos hch]
  exact LK
 ·have sa:0≤(0:Int)∧(0:Int)<(s.cells.length:Int):=⟨by omega,by omega⟩
  rw [if_neg hch]
  exact LK
theorem R_2 {n:Nat} {s:Sta} {p:Nat} (hs:staB s=true) (hr:s.room) (hi:s.i64) (hp:p<s.ths.length) (h:(s.th p).pc=2):RK (n+15) s p:=by
 unfold RK;rw [Xa]
 obtain ⟨H,_,_,T6,_,hcf,_,_,_,_,_,_,_,_,_,r1,hL,_,_,w0,w1,w2,w3,hpi,hcl,_,_,_,_,_,_,x8⟩:=pre hs hr hi hp h (by decide)
 rw [stv,st2 h]
 have st1:=r1
 unfold sk2
 by_cases hch:cl s (annB s.c (p:Int))=(s.th p).seen
 ·have sa:=Zr H hpi
  rw [Xs (Zr H hpi) hch]
  exact LK
 ·have sa:=Zr H hpi
  rw [Xo (Zr H hpi) hch]
  exact LK
theorem R_3 {n:Nat} {s:Sta} {p:Nat} (hs:staB s=true) (hr:s.room) (hi:s.i64) (hp:p<s.ths.length) (h:(s.th p).pc=3):RK (n+15) s p:=by
 unfold RK;rw [Xa]
 obtain ⟨H,_,_,T6,_,hcf,_,_,_,_,_,_,_,_,_,r1,hL,_,_,w0,w1,w2,w3,_,hcl,_,_,_,_,_,_,x8⟩:=pre hs hr hi hp h (by decide)
 rw [stv,st3 h]
 have st1:=r1
 unfold sk3
 by_cases hc:cl s 0=(s.th p).seen
 ·have sa:0≤(0:Int)∧(0:Int)<(s.cells.length:Int):=⟨by omega,by omega⟩
  rw [Xc5 (decide_eq_true hc),if_pos hc]
  exact LK
 ·have sa:0≤(0:Int)∧(0:Int)<(s.cells.length:Int):=⟨by omega,by omega⟩
  rw [Xc6 (by simpa using hc),if_neg hc]
  exact LK
theorem R_4 {n:Nat} {s:Sta} {p:Nat} (hs:staB s=true) (hr:s.room) (hi:s.i64) (hp:p<s.ths.length) (h:(s.th p).pc=4):RK (n+15) s p:=by
 unfold RK;rw [Xa]
 obtain ⟨H,_,_,T6,_,hcf,_,_,_,_,_,_,_,_,_,r1,hL,_,_,w0,w1,w2,w3,_,hcl,_,_,_,_,_,_,x8⟩:=pre hs hr hi hp h (by decide)
 rw [stv,st4 h]
 have st1:=r1
 unfold sk4
 by_cases hc:cl s 0=(s.th p).seen
 ·have sa:0≤(0:Int)∧(0:Int)<(s.cells.length:Int):=⟨by omega,by omega⟩
  have hck:=H.ck
  have wq:IntKind.i64.wrap ((s.th p).seen+1)=(s.th p).seen+1:=Xc (by omega) (by omega)
  have hch:¬cl s 0=(s.th p).seen+1:=by omega
  rw [Un sa hc,Xo sa hch]
  exact LKq
 ·have sa:0≤(0:Int)∧(0:Int)<(s.cells.length:Int):=⟨by omega,by omega⟩
  rw [Xf2 hc]
  exact LK
theorem R_5 {n:Nat} {s:Sta} {p:Nat} (hs:staB s=true) (hr:s.room) (hi:s.i64) (hp:p<s.ths.length) (h:(s.th p).pc=5):RK (n+15) s p:=by
 unfold RK;rw [Xa]
 obtain ⟨H,_,_,T6,_,hcf,_,_,_,_,_,_,_,_,_,r1,hL,_,_,w0,w1,w2,w3,hpi,hcl,_,_,_,_,_,_,x8⟩:=pre hs hr hi hp h (by decide)
 rw [stv,st5 h]
 have st1:=r1
 unfold sk5
 by_cases hch:cl s (annB s.c (p:Int))=0
 ·have sa:=Zr H hpi
  rw [Xs (Zr H hpi) hch]
  exact LK
 ·have sa:=Zr H hpi
  rw [Xo (Zr H hpi) hch]
  exact LK
theorem R_80 {n:Nat} {s:Sta} {p:Nat} (hs:staB s=true) (hr:s.room) (hi:s.i64) (hp:p<s.ths.length) (h:(s.th p).pc=80):RK (n+15) s p:=by
 unfold RK;rw [Xa]
 obtain ⟨H,_,_,T6,_,hcf,_,_,_,_,_,_,_,_,_,r1,hL,_,_,w0,w1,w2,w3,hpi,hcl,_,_,_,_,_,_,x8⟩:=pre hs hr hi hp h (by decide)
 rw [stv,st80 h]
 have st1:=r1
 unfold sk80
 by_cases hch:cl s (annB s.c (p:Int))=0
 ·have sa:=Zr H hpi
  rw [Xs (Zr H hpi) hch]
  exact LK
 ·have sa:=Zr H hpi
  rw [Xo (Zr H hpi) hch]
  exact LK
theorem R_11 {n:Nat} {s:Sta} {p:Nat} (hs:staB s=true) (hr:s.room) (hi:s.i64) (hp:p<s.ths.length) (h:(s.th p).pc=11):RK (n+15) s p:=by
 unfold RK;rw [Xa]
 obtain ⟨H,_,_,T6,_,hcf,_,_,_,_,_,_,_,_,_,r1,hL,_,_,w0,w1,w2,w3,hpi,hcl,_,_,_,_,_,_,x8⟩:=pre hs hr hi hp h (by decide)
 rw [stv,st11 h]
 have st1:=r1
 unfold sk11
 have hj:(0:Int)≤0∧(0:Int)≤1:=by omega
 by_cases hch:cl s (hazB s.c (p:Int) 0)=(s.th p).curr
 ·have sa:=Xj H hpi hj
  rw [Xs (Xj H hpi hj) hch]
  exact LK
 ·have sa:=Xj H hpi hj
  rw [Xo (Xj H hpi hj) hch]
  exact LK
end Go.Proofs.YtbploohjimpcaaaGreat.A
