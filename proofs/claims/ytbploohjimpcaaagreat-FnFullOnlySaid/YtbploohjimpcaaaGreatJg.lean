/- What the program's functions answer (Jg): no condition. -/
import Derived.Test.YtbploohjimpcaaaGreatGl
set_option linter.unusedVariables false
set_option linter.unusedSimpArgs false
namespace Go.Proofs.YtbploohjimpcaaaGreat.A
open Go Go.Abs
set_option maxRecDepth 100000
set_option maxHeartbeats 16000000
theorem I_37 {n:Nat} {s:Sta} {p:Nat} (hs:staB s=true) (hr:s.room) (hi:s.i64) (hp:p<s.ths.length) (h:(s.th p).pc=37):IK (n+30) s p 251 308 []:=by
 unfold IK;rw [Xa]
 obtain ⟨H,_,T,T6,_,hcf,_,_,_,_,_,_,_,hpc0,_,r1,hL,_,_,w0,w1,w2,w3,_,hcl,_,_,_,_,_,_,x8⟩:=pre hs hr hi hp h (by decide)
 rw [stv,st37 h]
 have st1:=r1
 unfold sk37
 have hop:=Vu T hpc0
 have hok:0≤(s.th p).op.key∧(s.th p).op.key<4:=by omega
 have hhd:=Wo H (⟨hop.1,hop.2.1⟩:0≤(s.th p).op.key∧(s.th p).op.key<s.c.keys)
 by_cases he:ld s (X2 s.c (s.th p).op.key)=(s.th p).curr
 ·rw [if_pos he,Xc5 (decide_eq_true he)]
  exact LJ
 ·rw [if_neg he,Xc6 (by simpa using he)]
  exact LJ
theorem I_38 {n:Nat} {s:Sta} {p:Nat} (hs:staB s=true) (hr:s.room) (hi:s.i64) (hp:p<s.ths.length) (h:(s.th p).pc=38):IK (n+30) s p 251 308 []:=by
 unfold IK;rw [Xa]
 obtain ⟨H,_,T,T6,_,hcf,_,_,_,_,_,_,_,hpc0,_,r1,hL,_,_,w0,w1,w2,w3,_,hcl,_,_,_,_,_,_,x8⟩:=pre hs hr hi hp h (by decide)
 rw [stv,st38 h]
 have st1:=r1
 unfold sk38
 have hop:=Vu T hpc0
 have hok:0≤(s.th p).op.key∧(s.th p).op.key<4:=by omega
 have hhd:=Wo H (⟨hop.1,hop.2.1⟩:0≤(s.th p).op.key∧(s.th p).op.key<s.c.keys)
 have hu6:I64 (s.th p).curr:=T6.2.2.1
 have hv6:=Xy hu6
 have hf:(0:Int)≤0∧(0:Int)≤2:=by omega
 by_cases hc:curB s (unmk (s.th p).curr)=true
 ·have hx4:=Wa H hc
  have hnd:=Z9 H hc hf
  rw [X4 hc,Xu hc]
  exact LJ
 ·have hcn:curB s (unmk (s.th p).curr)=false:=by simpa only [Bool.not_eq_true] using hc
  rw [X6 hc,Xw hc]
  exact LJ
theorem I_39 {n:Nat} {s:Sta} {p:Nat} (hs:staB s=true) (hr:s.room) (hi:s.i64) (hp:p<s.ths.length) (h:(s.th p).pc=39):IK (n+30) s p 251 308 []:=by
 unfold IK;rw [Xa]
 obtain ⟨H,_,T,T6,_,hcf,_,_,_,_,_,_,_,hpc0,_,r1,hL,_,_,w0,w1,w2,w3,_,hcl,_,_,_,_,_,_,x8⟩:=pre hs hr hi hp h (by decide)
 rw [stv,st39 h]
 have st1:=r1
 unfold sk39
 have hop:=Vu T hpc0
 have hok:0≤(s.th p).op.key∧(s.th p).op.key<4:=by omega
 have hhd:=Wo H (⟨hop.1,hop.2.1⟩:0≤(s.th p).op.key∧(s.th p).op.key<s.c.keys)
 have k0:ldL s.cells 0=cl s 0:=by rw [Xb0,if_pos (by omega)];rfl
 exact LJk0
theorem I_40 {n:Nat} {s:Sta} {p:Nat} (hs:staB s=true) (hr:s.room) (hi:s.i64) (hp:p<s.ths.length) (h:(s.th p).pc=40):IK (n+30) s p 251 308 []:=by
 unfold IK;rw [Xa]
 obtain ⟨H,_,T,T6,_,hcf,_,_,_,_,_,_,_,hpc0,_,r1,hL,_,_,w0,w1,w2,w3,_,hcl,_,_,_,_,_,_,x8⟩:=pre hs hr hi hp h (by decide)
 rw [stv,st40 h]
 have st1:=r1
 unfold sk40
 have hop:=Vu T hpc0
 have hok:0≤(s.th p).op.key∧(s.th p).op.key<4:=by omega
 have hhd:=Wo H (⟨hop.1,hop.2.1⟩:0≤(s.th p).op.key∧(s.th p).op.key<s.c.keys)
 have hu6:I64 (s.th p).curr:=T6.2.2.1
 have hv6:=Xy hu6
 have hf:(0:Int)≤0∧(0:Int)≤2:=by omega
 by_cases hc:curB s (unmk (s.th p).curr)=true
 ·have hx4:=Wa H hc
  have hnd:=Z9 H hc hf
  have sa:=hnd
  by_cases he:cl s (ncB s.c (idxB (unmk (s.th p).curr)) 0)=0
  ·by_cases hch:cl s (ncB s.c (idxB (unmk (s.th p).curr)) 0)=(s.th p).seen
   ·rw [X4 hc,Xu hc,Un sa he,Xs sa hch]
    exact LJ
   ·rw [X4 hc,Xu hc,Un sa he,Xo sa hch]
    exact LJ
  ·rw [X4 hc,Xu hc,Xf2 he]
   exact LJ
 ·have hcn:curB s (unmk (s.th p).curr)=false:=by simpa only [Bool.not_eq_true] using hc
  rw [X6 hc,Xw hc,Xbk]
  exact LJ
theorem I_41 {n:Nat} {s:Sta} {p:Nat} (hs:staB s=true) (hr:s.room) (hi:s.i64) (hp:p<s.ths.length) (h:(s.th p).pc=41):IK (n+30) s p 251 308 []:=by
 unfold IK;rw [Xa]
 obtain ⟨H,_,T,T6,_,hcf,_,_,_,_,_,_,_,hpc0,_,r1,hL,_,_,w0,w1,w2,w3,_,hcl,_,_,_,_,_,_,x8⟩:=pre hs hr hi hp h (by decide)
 rw [stv,st41 h]
 have st1:=r1
 unfold sk41
 have hop:=Vu T hpc0
 have hok:0≤(s.th p).op.key∧(s.th p).op.key<4:=by omega
 have hhd:=Wo H (⟨hop.1,hop.2.1⟩:0≤(s.th p).op.key∧(s.th p).op.key<s.c.keys)
 have hu6:I64 (s.th p).node:=T6.1
 have hv6:=Xy hu6
 have hf:(0:Int)≤2∧(2:Int)≤2:=by omega
 by_cases hc:curB s (unmk (s.th p).node)=true
 ·have hx4:=Wa H hc
  have hnd:=Z9 H hc hf
  have sa:=hnd
  by_cases hch:cl s (ncB s.c (idxB (unmk (s.th p).node)) 2)=(s.th p).curr
  ·rw [X4 hc,Xu hc,Xs sa hch]
   exact LJ
  ·rw [X4 hc,Xu hc,Xo sa hch]
   exact LJ
 ·have hcn:curB s (unmk (s.th p).node)=false:=by simpa only [Bool.not_eq_true] using hc
  rw [X6 hc,Xw hc,Xbj]
  exact LJ
theorem I_42 {n:Nat} {s:Sta} {p:Nat} (hs:staB s=true) (hr:s.room) (hi:s.i64) (hp:p<s.ths.length) (h:(s.th p).pc=42):IK (n+30) s p 251 308 []:=by
 unfold IK;rw [Xa]
 obtain ⟨H,_,T,T6,_,hcf,_,_,_,_,_,_,_,hpc0,_,r1,hL,_,_,w0,w1,w2,w3,_,hcl,_,_,_,_,_,_,x8⟩:=pre hs hr hi hp h (by decide)
 rw [stv,st42 h]
 have st1:=r1
 unfold sk42
 have hop:=Vu T hpc0
 have hok:0≤(s.th p).op.key∧(s.th p).op.key<4:=by omega
 have hhd:=Wo H (⟨hop.1,hop.2.1⟩:0≤(s.th p).op.key∧(s.th p).op.key<s.c.keys)
 have sa:=hhd
 by_cases he:cl s (X2 s.c (s.th p).op.key)=(s.th p).curr
 ·by_cases hch:cl s (X2 s.c (s.th p).op.key)=(s.th p).node
  ·rw [if_pos (Yl sa he),Xs sa hch]
   exact LJ
  ·rw [if_pos (Yl sa he),Xo sa hch]
   exact LJ
 ·rw [if_neg (Xdk he),Qq]
  exact LJ
theorem I_43 {n:Nat} {s:Sta} {p:Nat} (hs:staB s=true) (hr:s.room) (hi:s.i64) (hp:p<s.ths.length) (h:(s.th p).pc=43):IK (n+30) s p 251 308 []:=by
 unfold IK;rw [Xa]
 obtain ⟨H,_,_,T6,_,hcf,_,_,_,_,_,_,_,_,_,r1,hL,_,_,w0,w1,w2,w3,_,hcl,_,_,_,_,_,_,x8⟩:=pre hs hr hi hp h (by decide)
 rw [stv,st43 h]
 have st1:=r1
 unfold sk43
 have k0:ldL s.cells 0=cl s 0:=by rw [Xb0,if_pos (by omega)];rfl
 exact LJk0
theorem I_44 {n:Nat} {s:Sta} {p:Nat} (hs:staB s=true) (hr:s.room) (hi:s.i64) (hp:p<s.ths.length) (h:(s.th p).pc=44):IK (n+30) s p 251 308 []:=by
 unfold IK;rw [Xa]
 obtain ⟨H,_,_,T6,_,hcf,_,_,_,_,_,_,_,_,_,r1,hL,_,_,w0,w1,w2,w3,_,hcl,_,_,_,_,_,_,x8⟩:=pre hs hr hi hp h (by decide)
 rw [stv,st44 h]
 have st1:=r1
 unfold sk44
 have hu6:I64 (s.th p).node:=T6.1
 have hv6:=Xy hu6
 have hf:(0:Int)≤0∧(0:Int)≤2:=by omega
 by_cases hc:curB s (unmk (s.th p).node)=true
 ·have hx4:=Wa H hc
  have hnd:=Z9 H hc hf
  have sa:=hnd
  by_cases he:cl s (ncB s.c (idxB (unmk (s.th p).node)) 0)=0
  ·by_cases hch:cl s (ncB s.c (idxB (unmk (s.th p).node)) 0)=(s.th p).seen
   ·rw [X4 hc,Xu hc,Un sa he,Xs sa hch]
    exact LJ
   ·rw [X4 hc,Xu hc,Un sa he,Xo sa hch]
    exact LJ
  ·rw [X4 hc,Xu hc,Xf2 he]
   exact LJ
 ·have hcn:curB s (unmk (s.th p).node)=false:=by simpa only [Bool.not_eq_true] using hc
  rw [X6 hc,Xw hc,Xbk]
  exact LJ
end Go.Proofs.YtbploohjimpcaaaGreat.A
