/- What the program's functions answer (Jh): no condition. -/
import Derived.Test.YtbploohjimpcaaaGreatGl
set_option linter.unusedVariables false
set_option linter.unusedSimpArgs false
namespace Go.Proofs.YtbploohjimpcaaaGreat.A
open Go Go.Abs
set_option maxRecDepth 100000
set_option maxHeartbeats 16000000
theorem X40 {n:Nat} {s:Sta} {p:Nat} (hs:staB s=true) (hr:s.room) (hi:s.i64) (hp:p<s.ths.length) (h:(s.th p).pc=45) (hc:curB s (unmk (s.th p).node)=true) (h0:(s.th p).curr=0):IK (n+30) s p 251 308 []:=by
 unfold IK;rw [Xa]
 obtain ⟨H,_,_,T6,_,hcf,_,_,_,_,_,_,_,_,_,r1,hL,_,_,w0,w1,w2,w3,_,hcl,_,_,_,_,_,_,x8⟩:=pre hs hr hi hp h (by decide)
 rw [stv,st45 h]
 have st1:=r1
 unfold sk45
 have hu6:I64 (s.th p).node:=T6.1
 have hv6:=Xy hu6
 have hf:(0:Int)≤0∧(0:Int)≤2:=by omega
 have hx4:=Wa H hc
 have hnd:=Z9 H hc hf
 have hh:I64 (⟨(s.th p).curr,(s.th p).op.key,(s.th p).stamp,ldL s.cells (ncB s.c (idxB (unmk (s.th p).node)) 0)⟩:Ent).h:=T6.2.2.1
 rw [X4 hc,Xu hc,if_neg (fun h=>h.1 h0)]
 exact LJ
theorem X41 {n:Nat} {s:Sta} {p:Nat} (hs:staB s=true) (hr:s.room) (hi:s.i64) (hp:p<s.ths.length) (h:(s.th p).pc=45) (hc:curB s (unmk (s.th p).node)=true) (h0:¬(s.th p).curr=0) (h1:Zt ⟨(s.th p).curr,(s.th p).op.key,(s.th p).stamp,ld s (ncB s.c (idxB (unmk (s.th p).node)) 0)⟩=true) (h2:(s.th p).buf.length<100):IK (n+30) s p 251 308 []:=by
 unfold IK;rw [Xa]
 obtain ⟨H,_,_,T6,_,hcf,_,_,_,_,_,_,_,_,_,r1,hL,_,_,w0,w1,w2,w3,_,hcl,_,_,_,_,_,_,x8⟩:=pre hs hr hi hp h (by decide)
 rw [stv,st45 h]
 have st1:=r1
 unfold sk45
 have hu6:I64 (s.th p).node:=T6.1
 have hv6:=Xy hu6
 have hf:(0:Int)≤0∧(0:Int)≤2:=by omega
 have hx4:=Wa H hc
 have hnd:=Z9 H hc hf
 have hh:I64 (⟨(s.th p).curr,(s.th p).op.key,(s.th p).stamp,ldL s.cells (ncB s.c (idxB (unmk (s.th p).node)) 0)⟩:Ent).h:=T6.2.2.1
 rw [X4 hc,Xu hc,if_pos ⟨h0,h1,h2⟩]
 exact LJw
theorem X42 {n:Nat} {s:Sta} {p:Nat} (hs:staB s=true) (hr:s.room) (hi:s.i64) (hp:p<s.ths.length) (h:(s.th p).pc=45) (hc:curB s (unmk (s.th p).node)=true) (h0:¬(s.th p).curr=0) (h1:Zt ⟨(s.th p).curr,(s.th p).op.key,(s.th p).stamp,ld s (ncB s.c (idxB (unmk (s.th p).node)) 0)⟩=true) (h2:¬(s.th p).buf.length<100):IK (n+30) s p 251 308 []:=by
 unfold IK;rw [Xa]
 obtain ⟨H,_,_,T6,_,hcf,_,_,_,_,_,_,_,_,_,r1,hL,_,_,w0,w1,w2,w3,_,hcl,_,_,_,_,_,_,x8⟩:=pre hs hr hi hp h (by decide)
 rw [stv,st45 h]
 have st1:=r1
 unfold sk45
 have hu6:I64 (s.th p).node:=T6.1
 have hv6:=Xy hu6
 have hf:(0:Int)≤0∧(0:Int)≤2:=by omega
 have hx4:=Wa H hc
 have hnd:=Z9 H hc hf
 have hh:I64 (⟨(s.th p).curr,(s.th p).op.key,(s.th p).stamp,ldL s.cells (ncB s.c (idxB (unmk (s.th p).node)) 0)⟩:Ent).h:=T6.2.2.1
 rw [X4 hc,Xu hc,if_neg (fun h=>h2 h.2.2)]
 exact LJ
theorem X43 {n:Nat} {s:Sta} {p:Nat} (hs:staB s=true) (hr:s.room) (hi:s.i64) (hp:p<s.ths.length) (h:(s.th p).pc=45) (hc:curB s (unmk (s.th p).node)=true) (h0:¬(s.th p).curr=0) (h1:¬Zt ⟨(s.th p).curr,(s.th p).op.key,(s.th p).stamp,ld s (ncB s.c (idxB (unmk (s.th p).node)) 0)⟩=true):IK (n+30) s p 251 308 []:=by
 unfold IK;rw [Xa]
 obtain ⟨H,_,_,T6,_,hcf,_,_,_,_,_,_,_,_,_,r1,hL,_,_,w0,w1,w2,w3,_,hcl,_,_,_,_,_,_,x8⟩:=pre hs hr hi hp h (by decide)
 rw [stv,st45 h]
 have st1:=r1
 unfold sk45
 have hu6:I64 (s.th p).node:=T6.1
 have hv6:=Xy hu6
 have hf:(0:Int)≤0∧(0:Int)≤2:=by omega
 have hx4:=Wa H hc
 have hnd:=Z9 H hc hf
 have hh:I64 (⟨(s.th p).curr,(s.th p).op.key,(s.th p).stamp,ldL s.cells (ncB s.c (idxB (unmk (s.th p).node)) 0)⟩:Ent).h:=T6.2.2.1
 rw [X4 hc,Xu hc,if_neg (fun h=>h1 h.2.1)]
 exact LJ
theorem X44 {n:Nat} {s:Sta} {p:Nat} (hs:staB s=true) (hr:s.room) (hi:s.i64) (hp:p<s.ths.length) (h:(s.th p).pc=45) (hc:¬curB s (unmk (s.th p).node)=true) (h0:(s.th p).curr=0):IK (n+30) s p 251 308 []:=by
 unfold IK;rw [Xa]
 obtain ⟨H,_,_,T6,_,hcf,_,_,_,_,_,_,_,_,_,r1,hL,_,_,w0,w1,w2,w3,_,hcl,_,_,_,_,_,_,x8⟩:=pre hs hr hi hp h (by decide)
 rw [stv,st45 h]
 have st1:=r1
 unfold sk45
 have hu6:I64 (s.th p).node:=T6.1
 have hv6:=Xy hu6
 have hf:(0:Int)≤0∧(0:Int)≤2:=by omega
 have hcn:curB s (unmk (s.th p).node)=false:=by simpa only [Bool.not_eq_true] using hc
 have hh:I64 (⟨(s.th p).curr,(s.th p).op.key,(s.th p).stamp,ldL s.cells (-1)⟩:Ent).h:=T6.2.2.1
 rw [X6 hc,Xw hc,if_neg (fun h=>h.1 h0)]
 exact LJ
theorem X45 {n:Nat} {s:Sta} {p:Nat} (hs:staB s=true) (hr:s.room) (hi:s.i64) (hp:p<s.ths.length) (h:(s.th p).pc=45) (hc:¬curB s (unmk (s.th p).node)=true) (h0:¬(s.th p).curr=0) (h1:Zt ⟨(s.th p).curr,(s.th p).op.key,(s.th p).stamp,ld s (-1)⟩=true) (h2:(s.th p).buf.length<100):IK (n+30) s p 251 308 []:=by
 unfold IK;rw [Xa]
 obtain ⟨H,_,_,T6,_,hcf,_,_,_,_,_,_,_,_,_,r1,hL,_,_,w0,w1,w2,w3,_,hcl,_,_,_,_,_,_,x8⟩:=pre hs hr hi hp h (by decide)
 rw [stv,st45 h]
 have st1:=r1
 unfold sk45
 have hu6:I64 (s.th p).node:=T6.1
 have hv6:=Xy hu6
 have hf:(0:Int)≤0∧(0:Int)≤2:=by omega
 have hcn:curB s (unmk (s.th p).node)=false:=by simpa only [Bool.not_eq_true] using hc
 have hh:I64 (⟨(s.th p).curr,(s.th p).op.key,(s.th p).stamp,ldL s.cells (-1)⟩:Ent).h:=T6.2.2.1
 rw [X6 hc,Xw hc,if_pos ⟨h0,h1,h2⟩]
 exact LJw
theorem X46 {n:Nat} {s:Sta} {p:Nat} (hs:staB s=true) (hr:s.room) (hi:s.i64) (hp:p<s.ths.length) (h:(s.th p).pc=45) (hc:¬curB s (unmk (s.th p).node)=true) (h0:¬(s.th p).curr=0) (h1:Zt ⟨(s.th p).curr,(s.th p).op.key,(s.th p).stamp,ld s (-1)⟩=true) (h2:¬(s.th p).buf.length<100):IK (n+30) s p 251 308 []:=by
 unfold IK;rw [Xa]
 obtain ⟨H,_,_,T6,_,hcf,_,_,_,_,_,_,_,_,_,r1,hL,_,_,w0,w1,w2,w3,_,hcl,_,_,_,_,_,_,x8⟩:=pre hs hr hi hp h (by decide)
 rw [stv,st45 h]
 have st1:=r1
 unfold sk45
 have hu6:I64 (s.th p).node:=T6.1
 have hv6:=Xy hu6
 have hf:(0:Int)≤0∧(0:Int)≤2:=by omega
 have hcn:curB s (unmk (s.th p).node)=false:=by simpa only [Bool.not_eq_true] using hc
 have hh:I64 (⟨(s.th p).curr,(s.th p).op.key,(s.th p).stamp,ldL s.cells (-1)⟩:Ent).h:=T6.2.2.1
 rw [X6 hc,Xw hc,if_neg (fun h=>h2 h.2.2)]
 exact LJ
theorem X47 {n:Nat} {s:Sta} {p:Nat} (hs:staB s=true) (hr:s.room) (hi:s.i64) (hp:p<s.ths.length) (h:(s.th p).pc=45) (hc:¬curB s (unmk (s.th p).node)=true) (h0:¬(s.th p).curr=0) (h1:¬Zt ⟨(s.th p).curr,(s.th p).op.key,(s.th p).stamp,ld s (-1)⟩=true):IK (n+30) s p 251 308 []:=by
 unfold IK;rw [Xa]
 obtain ⟨H,_,_,T6,_,hcf,_,_,_,_,_,_,_,_,_,r1,hL,_,_,w0,w1,w2,w3,_,hcl,_,_,_,_,_,_,x8⟩:=pre hs hr hi hp h (by decide)
 rw [stv,st45 h]
 have st1:=r1
 unfold sk45
 have hu6:I64 (s.th p).node:=T6.1
 have hv6:=Xy hu6
 have hf:(0:Int)≤0∧(0:Int)≤2:=by omega
 have hcn:curB s (unmk (s.th p).node)=false:=by simpa only [Bool.not_eq_true] using hc
 have hh:I64 (⟨(s.th p).curr,(s.th p).op.key,(s.th p).stamp,ldL s.cells (-1)⟩:Ent).h:=T6.2.2.1
 rw [X6 hc,Xw hc,if_neg (fun h=>h1 h.2.1)]
 exact LJ
theorem I_45 {n:Nat} {s:Sta} {p:Nat} (hs:staB s=true) (hr:s.room) (hi:s.i64) (hp:p<s.ths.length) (h:(s.th p).pc=45):IK (n+30) s p 251 308 []:=by
 by_cases hc:curB s (unmk (s.th p).node)=true
 ·by_cases h0:(s.th p).curr=0
  ·exact X40 hs hr hi hp h hc h0
  ·by_cases h1:Zt ⟨(s.th p).curr,(s.th p).op.key,(s.th p).stamp,ld s (ncB s.c (idxB (unmk (s.th p).node)) 0)⟩=true
   ·by_cases h2:(s.th p).buf.length<100
    ·exact X41 hs hr hi hp h hc h0 h1 h2
    ·exact X42 hs hr hi hp h hc h0 h1 h2
   ·exact X43 hs hr hi hp h hc h0 h1
 ·by_cases h0:(s.th p).curr=0
  ·exact X44 hs hr hi hp h hc h0
  ·by_cases h1:Zt ⟨(s.th p).curr,(s.th p).op.key,(s.th p).stamp,ld s (-1)⟩=true
   ·by_cases h2:(s.th p).buf.length<100
    ·exact X45 hs hr hi hp h hc h0 h1 h2
    ·exact X46 hs hr hi hp h hc h0 h1 h2
   ·exact X47 hs hr hi hp h hc h0 h1
theorem I_46 {n:Nat} {s:Sta} {p:Nat} (hs:staB s=true) (hr:s.room) (hi:s.i64) (hp:p<s.ths.length) (h:(s.th p).pc=46):IK (n+30) s p 251 308 []:=by
 unfold IK;rw [Xa]
 obtain ⟨H,_,_,T6,_,hcf,_,_,_,_,_,_,_,_,_,r1,hL,_,_,w0,w1,w2,w3,hpi,hcl,_,_,_,_,_,_,x8⟩:=pre hs hr hi hp h (by decide)
 rw [stv,st46 h]
 have st1:=r1
 unfold sk46
 have hj:(0:Int)≤0∧(0:Int)≤1:=by omega
 by_cases hch:cl s (hazB s.c (p:Int) 0)=0
 ·have sa:=Xj H hpi hj
  rw [Xs (Xj H hpi hj) hch]
  exact LJ
 ·have sa:=Xj H hpi hj
  rw [Xo (Xj H hpi hj) hch]
  exact LJ
theorem I_47 {n:Nat} {s:Sta} {p:Nat} (hs:staB s=true) (hr:s.room) (hi:s.i64) (hp:p<s.ths.length) (h:(s.th p).pc=47):IK (n+30) s p 251 308 []:=by
 unfold IK;rw [Xa]
 obtain ⟨H,_,_,T6,_,hcf,_,_,_,_,_,_,_,_,_,r1,hL,_,_,w0,w1,w2,w3,hpi,hcl,hro,_,_,_,_,_,x8⟩:=pre hs hr hi hp h (by decide)
 rw [stv,st47 h]
 have st1:=r1
 unfold sk47
 have hj:(0:Int)≤1∧(1:Int)≤1:=by omega
 have hbl:(s.th p).buf.length≤1048576:=hro.2.2.1
 by_cases hch:cl s (hazB s.c (p:Int) 1)=0
 ·by_cases hm:Xin s.c (s.th p)=true
  ·have sa:=Xj H hpi hj
   rw [Xs (Xj H hpi hj) hch,if_pos hm]
   exact LJ
  ·have sa:=Xj H hpi hj
   rw [Xs (Xj H hpi hj) hch,if_neg hm]
   exact LJ
 ·by_cases hm:Xin s.c (s.th p)=true
  ·have sa:=Xj H hpi hj
   rw [Xo (Xj H hpi hj) hch,if_pos hm]
   exact LJ
  ·have sa:=Xj H hpi hj
   rw [Xo (Xj H hpi hj) hch,if_neg hm]
   exact LJ
end Go.Proofs.YtbploohjimpcaaaGreat.A
