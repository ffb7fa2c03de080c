/- What the program's functions answer (Ja): no condition. -/
import Derived.Test.YtbploohjimpcaaaGreatGl
set_option linter.unusedVariables false
set_option linter.unusedSimpArgs false
namespace Go.Proofs.YtbploohjimpcaaaGreat.A
open Go Go.Abs
set_option maxRecDepth 100000
set_option maxHeartbeats 16000000
theorem I_1 {n:Nat} {s:Sta} {p:Nat} (hs:staB s=true) (hr:s.room) (hi:s.i64) (hp:p<s.ths.length) (h:(s.th p).pc=1):IK (n+28) s p 245 305 []:=by
 unfold IK;rw [Xa]
 obtain ⟨H,_,_,T6,_,hcf,_,_,_,_,_,_,_,_,_,r1,hL,_,_,w0,w1,w2,w3,_,hcl,_,_,_,_,_,_,x8⟩:=pre hs hr hi hp h (by decide)
 rw [stv,st1 h]
 have st1:=r1
 unfold sk1
 have k0:ldL s.cells 0=cl s 0:=by rw [Xb0,if_pos (by omega)];rfl
 exact LJk0
theorem I_2 {n:Nat} {s:Sta} {p:Nat} (hs:staB s=true) (hr:s.room) (hi:s.i64) (hp:p<s.ths.length) (h:(s.th p).pc=2):IK (n+28) s p 245 305 []:=by
 unfold IK;rw [Xa]
 obtain ⟨H,_,_,T6,_,hcf,_,_,_,_,_,_,_,_,_,r1,hL,_,_,w0,w1,w2,w3,hpi,hcl,_,_,_,_,_,_,x8⟩:=pre hs hr hi hp h (by decide)
 rw [stv,st2 h]
 have st1:=r1
 unfold sk2
 by_cases hch:cl s (annB s.c (p:Int))=(s.th p).seen
 ·have sa:=Zr H hpi
  rw [Xs (Zr H hpi) hch]
  exact LJ
 ·have sa:=Zr H hpi
  rw [Xo (Zr H hpi) hch]
  exact LJ
theorem I_3 {n:Nat} {s:Sta} {p:Nat} (hs:staB s=true) (hr:s.room) (hi:s.i64) (hp:p<s.ths.length) (h:(s.th p).pc=3):IK (n+28) s p 245 305 []:=by
 unfold IK;rw [Xa]
 obtain ⟨H,_,_,T6,_,hcf,_,_,_,_,_,_,_,_,_,r1,hL,_,_,w0,w1,w2,w3,_,hcl,_,_,_,_,_,_,x8⟩:=pre hs hr hi hp h (by decide)
 rw [stv,st3 h]
 have st1:=r1
 unfold sk3
 by_cases hc:cl s 0=(s.th p).seen
 ·have k0:ldL s.cells 0=cl s 0:=by rw [Xb0,if_pos (by omega)];rfl
  rw [Xc5 (decide_eq_true hc),if_pos hc]
  exact LJk0
 ·have k0:ldL s.cells 0=cl s 0:=by rw [Xb0,if_pos (by omega)];rfl
  rw [Xc6 (by simpa using hc),if_neg hc]
  exact LJk0
theorem I_4 {n:Nat} {s:Sta} {p:Nat} (hs:staB s=true) (hr:s.room) (hi:s.i64) (hp:p<s.ths.length) (h:(s.th p).pc=4):IK (n+28) s p 245 305 []:=by
 unfold IK;rw [Xa]
 obtain ⟨H,_,_,T6,_,hcf,_,_,_,_,_,_,_,_,_,r1,hL,_,_,w0,w1,w2,w3,_,hcl,_,_,_,_,_,_,x8⟩:=pre hs hr hi hp h (by decide)
 rw [stv,st4 h]
 have st1:=r1
 unfold sk4
 by_cases hc:cl s 0=(s.th p).seen
 ·have sa:=(⟨by omega,by omega⟩:0≤(0:Int)∧(0:Int)<(s.cells.length:Int))
  have hck:=H.ck
  have wq:IntKind.i64.wrap ((s.th p).seen+1)=(s.th p).seen+1:=Xc (by omega) (by omega)
  have hch:¬cl s 0=(s.th p).seen+1:=by omega
  rw [Un sa hc,Xo sa hch]
  exact LJq
 ·have sa:=(⟨by omega,by omega⟩:0≤(0:Int)∧(0:Int)<(s.cells.length:Int))
  rw [Xf2 hc]
  exact LJ
theorem I_5 {n:Nat} {s:Sta} {p:Nat} (hs:staB s=true) (hr:s.room) (hi:s.i64) (hp:p<s.ths.length) (h:(s.th p).pc=5):IK (n+28) s p 245 305 []:=by
 unfold IK;rw [Xa]
 obtain ⟨H,_,_,T6,_,hcf,_,_,_,_,_,_,_,_,_,r1,hL,_,_,w0,w1,w2,w3,hpi,hcl,_,_,_,_,_,_,x8⟩:=pre hs hr hi hp h (by decide)
 rw [stv,st5 h]
 have st1:=r1
 unfold sk5
 by_cases hch:cl s (annB s.c (p:Int))=0
 ·have sa:=Zr H hpi
  rw [Xs (Zr H hpi) hch]
  exact LJ
 ·have sa:=Zr H hpi
  rw [Xo (Zr H hpi) hch]
  exact LJ
theorem I_80 {n:Nat} {s:Sta} {p:Nat} (hs:staB s=true) (hr:s.room) (hi:s.i64) (hp:p<s.ths.length) (h:(s.th p).pc=80):IK (n+30) s p 315 316 [.pv [.int .i64 (p:Int)]]:=by
 unfold IK;rw [Xa]
 obtain ⟨H,_,_,T6,_,hcf,_,_,_,_,_,_,_,_,_,r1,hL,_,_,w0,w1,w2,w3,hpi,hcl,_,_,_,_,_,_,x8⟩:=pre hs hr hi hp h (by decide)
 rw [stv,st80 h]
 have st1:=r1
 unfold sk80
 by_cases hch:cl s (annB s.c (p:Int))=0
 ·have sa:=Zr H hpi
  rw [Xs (Zr H hpi) hch]
  exact LJ
 ·have sa:=Zr H hpi
  rw [Xo (Zr H hpi) hch]
  exact LJ
theorem I_16 {n:Nat} {s:Sta} {p:Nat} (hs:staB s=true) (hr:s.room) (hi:s.i64) (hp:p<s.ths.length) (h:(s.th p).pc=16):IK (n+28) s p 249 307 []:=by
 unfold IK;rw [Xa]
 obtain ⟨H,_,_,T6,_,hcf,_,_,_,_,_,_,_,_,_,r1,hL,_,_,w0,w1,w2,w3,_,hcl,_,_,_,_,_,_,x8⟩:=pre hs hr hi hp h (by decide)
 rw [stv,st16 h]
 have st1:=r1
 unfold sk16
 have hu6:I64 (s.th p).curr:=T6.2.2.1
 have hv6:=Xy hu6
 have hf:(0:Int)≤0∧(0:Int)≤2:=by omega
 by_cases hc:curB s (unmk (s.th p).curr)=true
 ·have hx4:=Wa H hc
  have hnd:=Z9 H hc hf
  rw [X4 hc,Xu hc]
  exact LJ
 ·have hcn:curB s (unmk (s.th p).curr)=false:=by simpa only [Bool.not_eq_true] using hc
  rw [X6 hc,Xw hc]
  exact LJ
theorem I_17 {n:Nat} {s:Sta} {p:Nat} (hs:staB s=true) (hr:s.room) (hi:s.i64) (hp:p<s.ths.length) (h:(s.th p).pc=17):IK (n+28) s p 249 307 []:=by
 unfold IK;rw [Xa]
 obtain ⟨H,_,_,T6,_,hcf,_,_,_,_,_,_,_,_,_,r1,hL,_,_,w0,w1,w2,w3,_,hcl,_,_,_,_,_,_,x8⟩:=pre hs hr hi hp h (by decide)
 rw [stv,st17 h]
 have st1:=r1
 unfold sk17
 have k0:ldL s.cells 0=cl s 0:=by rw [Xb0,if_pos (by omega)];rfl
 exact LJk0
end Go.Proofs.YtbploohjimpcaaaGreat.A
