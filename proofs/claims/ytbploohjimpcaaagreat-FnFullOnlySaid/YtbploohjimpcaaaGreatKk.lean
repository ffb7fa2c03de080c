/- What the program's functions answer (Kk): no condition. -/
import Derived.Test.YtbploohjimpcaaaGreatGl
set_option linter.unusedVariables false
set_option linter.unusedSimpArgs false
namespace Go.Proofs.YtbploohjimpcaaaGreat.A
open Go Go.Abs
set_option maxRecDepth 100000
set_option maxHeartbeats 16000000
theorem X6p {n:Nat} {s:Sta} {p:Nat} (hs:staB s=true) (hr:s.room) (hi:s.i64) (hp:p<s.ths.length) (h:(s.th p).pc=45) (hc:curB s (unmk (s.th p).node)=true):RK (n+15) s p:=by
 unfold RK;rw [Xa]
 obtain ⟨H,_,_,T6,_,hcf,_,_,_,_,_,_,_,_,_,r1,hL,_,_,w0,w1,w2,w3,_,hcl,_,_,_,_,_,_,x8⟩:=pre hs hr hi hp h (by decide)
 rw [stv,st45 h]
 have st1:=r1
 unfold sk45
 have hu6:I64 (s.th p).node:=T6.1
 have hv6:=Xy hu6
 have hf:(0:Int)≤0∧(0:Int)≤2:=by omega
 have hx4:=Wa H hc
 have hnd:=Z9 H hc hf
 have hxi:=Y3 (Vi hc)
 have q1:=Wz hc
 have qg:=W0 hc
 have sa:=hnd
 have hh:I64 (⟨(s.th p).curr,(s.th p).op.key,(s.th p).stamp,(cl s ((ncB s.c (idxB (unmk (s.th p).node)) 0)))⟩:Ent).h:=T6.2.2.1
 by_cases h0:(s.th p).curr=0
 ·rw [X4 hc,Xu hc,Zl hnd,if_neg (fun h=>h.1 h0)]
  exact LK
 ·by_cases h1:Zt ⟨(s.th p).curr,(s.th p).op.key,(s.th p).stamp,(cl s ((ncB s.c (idxB (unmk (s.th p).node)) 0)))⟩=true
  ·by_cases h2:(s.th p).buf.length<100
   ·rw [X4 hc,Xu hc,Zl hnd,if_pos ⟨h0,h1,h2⟩]
    exact LKw
   ·rw [X4 hc,Xu hc,Zl hnd,if_neg (fun h=>h2 h.2.2)]
    exact LK
  ·rw [X4 hc,Xu hc,Zl hnd,if_neg (fun h=>h1 h.2.1)]
   exact LK
theorem X6q {n:Nat} {s:Sta} {p:Nat} (hs:staB s=true) (hr:s.room) (hi:s.i64) (hp:p<s.ths.length) (h:(s.th p).pc=45) (hc:¬curB s (unmk (s.th p).node)=true):RK (n+15) s p:=by
 unfold RK;rw [Xa]
 obtain ⟨H,_,_,T6,_,hcf,_,_,_,_,_,_,_,_,_,r1,hL,_,_,w0,w1,w2,w3,_,hcl,_,_,_,_,_,_,x8⟩:=pre hs hr hi hp h (by decide)
 rw [stv,st45 h]
 have st1:=r1
 unfold sk45
 have hu6:I64 (s.th p).node:=T6.1
 have hv6:=Xy hu6
 have hf:(0:Int)≤0∧(0:Int)≤2:=by omega
 rcases Qj hc with q1 | ⟨q1,q0⟩ | ⟨q1,q3,q0⟩
 ·have hh:I64 (⟨(s.th p).curr,(s.th p).op.key,(s.th p).stamp,(0:Int)⟩:Ent).h:=T6.2.2.1
  by_cases h0:(s.th p).curr=0
  ·rw [X6 hc,Xw hc,Wi,if_neg (fun h=>h.1 h0)]
   exact LK
  ·by_cases h1:Zt ⟨(s.th p).curr,(s.th p).op.key,(s.th p).stamp,(0:Int)⟩=true
   ·by_cases h2:(s.th p).buf.length<100
    ·rw [X6 hc,Xw hc,Wi,if_pos ⟨h0,h1,h2⟩]
     exact LKw
    ·rw [X6 hc,Xw hc,Wi,if_neg (fun h=>h2 h.2.2)]
     exact LK
   ·rw [X6 hc,Xw hc,Wi,if_neg (fun h=>h1 h.2.1)]
    exact LK
 ·have hh:I64 (⟨(s.th p).curr,(s.th p).op.key,(s.th p).stamp,(0:Int)⟩:Ent).h:=T6.2.2.1
  by_cases h0:(s.th p).curr=0
  ·rw [X6 hc,Xw hc,Wi,if_neg (fun h=>h.1 h0)]
   exact LK
  ·by_cases h1:Zt ⟨(s.th p).curr,(s.th p).op.key,(s.th p).stamp,(0:Int)⟩=true
   ·by_cases h2:(s.th p).buf.length<100
    ·rw [X6 hc,Xw hc,Wi,if_pos ⟨h0,h1,h2⟩]
     exact LKw
    ·rw [X6 hc,Xw hc,Wi,if_neg (fun h=>h2 h.2.2)]
     exact LK
   ·rw [X6 hc,Xw hc,Wi,if_neg (fun h=>h1 h.2.1)]
    exact LK
 ·have hnn:=Qk q1
  have hh:I64 (⟨(s.th p).curr,(s.th p).op.key,(s.th p).stamp,(0:Int)⟩:Ent).h:=T6.2.2.1
  by_cases h0:(s.th p).curr=0
  ·rw [X6 hc,Xw hc,Wi,if_neg (fun h=>h.1 h0)]
   exact LK
  ·by_cases h1:Zt ⟨(s.th p).curr,(s.th p).op.key,(s.th p).stamp,(0:Int)⟩=true
   ·by_cases h2:(s.th p).buf.length<100
    ·rw [X6 hc,Xw hc,Wi,if_pos ⟨h0,h1,h2⟩]
     exact LKw
    ·rw [X6 hc,Xw hc,Wi,if_neg (fun h=>h2 h.2.2)]
     exact LK
   ·rw [X6 hc,Xw hc,Wi,if_neg (fun h=>h1 h.2.1)]
    exact LK
theorem R_45 {n:Nat} {s:Sta} {p:Nat} (hs:staB s=true) (hr:s.room) (hi:s.i64) (hp:p<s.ths.length) (h:(s.th p).pc=45):RK (n+15) s p:=by
 by_cases hc:curB s (unmk (s.th p).node)=true
 ·exact X6p hs hr hi hp h hc
 ·exact X6q hs hr hi hp h hc
end Go.Proofs.YtbploohjimpcaaaGreat.A
