/- What the program's functions answer (Kc): no condition. -/
import Derived.Test.YtbploohjimpcaaaGreatGl
set_option linter.unusedVariables false
set_option linter.unusedSimpArgs false
namespace Go.Proofs.YtbploohjimpcaaaGreat.A
open Go Go.Abs
set_option maxRecDepth 100000
set_option maxHeartbeats 16000000
theorem X6n {n:Nat} {s:Sta} {p:Nat} (hs:staB s=true) (hr:s.room) (hi:s.i64) (hp:p<s.ths.length) (h:(s.th p).pc=12) (hp0:(s.th p).prev=0):RK (n+15) s p:=by
 unfold RK;rw [Xa]
 obtain ⟨H,_,T,T6,_,hcf,_,_,_,_,_,_,_,hpc0,_,r1,hL,_,_,w0,w1,w2,w3,_,hcl,hro,_,_,_,_,_,x8⟩:=pre hs hr hi hp h (by decide)
 rw [stv,st12 h]
 have st1:=r1
 unfold sk12
 have hww:(s.th p).work.length≤1048576:=hro.2.2.2.1
 have hwk:=Vq T hpc0
 by_cases hk2:(s.th p).op.k=2
 ·rw [wK_r hk2] at hwk
  have hk4:0≤(s.th p).op.key∧(s.th p).op.key<4:=by omega
  have hhd:=Wo H hwk
  have sa:=hhd
  by_cases he:cl s (X2 s.c (s.th p).op.key)=(s.th p).curr
  ·rw [Zp hp0,Zq hp0,wK_r hk2,Zl hhd,if_pos he,Xc5 (decide_eq_true he)]
   exact LK
  ·rw [Zp hp0,Zq hp0,wK_r hk2,Zl hhd,if_neg he,Xc6 (by simpa using he)]
   exact LK
 ·rcases Yv (s.th p).work with hw | ⟨e,w,hw⟩
  ·have hwn:=lenN hw
   rw [wK_n hk2 hw] at hwk
   have hk4:0≤(s.th p).op.key∧(s.th p).op.key<4:=by omega
   have hhd:=Wo H hwk
   have sa:=hhd
   by_cases he:cl s (X2 s.c (s.th p).op.key)=(s.th p).curr
   ·rw [Zp hp0,Zq hp0,wK_n hk2 hw,Zl hhd,if_pos he,Xc5 (decide_eq_true he)]
    exact LK
   ·rw [Zp hp0,Zq hp0,wK_n hk2 hw,Zl hhd,if_neg he,Xc6 (by simpa using he)]
    exact LK
  ·have hwn:=lenC hw
   have hwl:=hro.2.2.2.1
   have hll:=hro.2.2.2.2
   rw [hw,List.length_cons] at hwl
   have r5:((s.th p).work.map entA)[0]?=some (entA e):=by rw [hw];rfl
   rw [wK_e hk2 hw] at hwk
   have hk4:0≤e.key∧e.key<4:=by omega
   have hhd:=Wo H hwk
   have sa:=hhd
   by_cases he:cl s (X2 s.c e.key)=(s.th p).curr
   ·rw [Zp hp0,Zq hp0,wK_e hk2 hw,Zl hhd,if_pos he,Xc5 (decide_eq_true he)]
    exact LK
   ·rw [Zp hp0,Zq hp0,wK_e hk2 hw,Zl hhd,if_neg he,Xc6 (by simpa using he)]
    exact LK
theorem X6o {n:Nat} {s:Sta} {p:Nat} (hs:staB s=true) (hr:s.room) (hi:s.i64) (hp:p<s.ths.length) (h:(s.th p).pc=12) (hp0:¬(s.th p).prev=0):RK (n+15) s p:=by
 unfold RK;rw [Xa]
 obtain ⟨H,_,_,T6,_,hcf,_,_,_,_,_,_,_,_,_,r1,hL,_,_,w0,w1,w2,w3,_,hcl,_,_,_,_,_,_,x8⟩:=pre hs hr hi hp h (by decide)
 rw [stv,st12 h]
 have st1:=r1
 unfold sk12
 have hu6:I64 (s.th p).prev:=T6.2.1
 have hv6:=Xy hu6
 have hf:(0:Int)≤2∧(2:Int)≤2:=by omega
 by_cases hc:curB s (unmk (s.th p).prev)=true
 ·have hx4:=Wa H hc
  have hnd:=Z9 H hc hf
  have hxi:=Y3 (Vi hc)
  have q1:=Wz hc
  have qg:=W0 hc
  have sa:=hnd
  by_cases he:cl s ((ncB s.c (idxB (unmk (s.th p).prev)) 2))=(s.th p).curr
  ·rw [Zh hp0,Zi hp0,X4 hc,Xu hc,Zl hnd,if_pos he,Xc5 (decide_eq_true he)]
   exact LK
  ·rw [Zh hp0,Zi hp0,X4 hc,Xu hc,Zl hnd,if_neg he,Xc6 (by simpa using he)]
   exact LK
 ·rcases Qj hc with q1 | ⟨q1,q0⟩ | ⟨q1,q3,q0⟩
  ·by_cases he:(0:Int)=(s.th p).curr
   ·rw [Zh hp0,Zi hp0,X6 hc,Xw hc,Wi,if_pos he,Xc5 (decide_eq_true he)]
    exact LK
   ·rw [Zh hp0,Zi hp0,X6 hc,Xw hc,Wi,if_neg he,Xc6 (by simpa using he)]
    exact LK
  ·by_cases he:(0:Int)=(s.th p).curr
   ·rw [Zh hp0,Zi hp0,X6 hc,Xw hc,Wi,if_pos he,Xc5 (decide_eq_true he)]
    exact LK
   ·rw [Zh hp0,Zi hp0,X6 hc,Xw hc,Wi,if_neg he,Xc6 (by simpa using he)]
    exact LK
  ·have hnn:=Qk q1
   by_cases he:(0:Int)=(s.th p).curr
   ·rw [Zh hp0,Zi hp0,X6 hc,Xw hc,Wi,if_pos he,Xc5 (decide_eq_true he)]
    exact LK
   ·rw [Zh hp0,Zi hp0,X6 hc,Xw hc,Wi,if_neg he,Xc6 (by simpa using he)]
    exact LK
theorem R_12 {n:Nat} {s:Sta} {p:Nat} (hs:staB s=true) (hr:s.room) (hi:s.i64) (hp:p<s.ths.length) (h:(s.th p).pc=12):RK (n+15) s p:=by
 by_cases hp0:(s.th p).prev=0
 ·exact X6n hs hr hi hp h hp0
 ·exact X6o hs hr hi hp h hp0
theorem R_13 {n:Nat} {s:Sta} {p:Nat} (hs:staB s=true) (hr:s.room) (hi:s.i64) (hp:p<s.ths.length) (h:(s.th p).pc=13):RK (n+15) s p:=by
 unfold RK;rw [Xa]
 obtain ⟨H,_,_,T6,_,hcf,_,_,_,_,_,_,_,_,_,r1,hL,_,_,w0,w1,w2,w3,_,hcl,_,_,_,_,_,_,x8⟩:=pre hs hr hi hp h (by decide)
 rw [stv,st13 h]
 have st1:=r1
 unfold sk13
 have hu6:I64 (s.th p).curr:=T6.2.2.1
 have hv6:=Xy hu6
 have hf:(0:Int)≤2∧(2:Int)≤2:=by omega
 by_cases hc:curB s (unmk (s.th p).curr)=true
 ·have hx4:=Wa H hc
  have hnd:=Z9 H hc hf
  have hxi:=Y3 (Vi hc)
  have q1:=Wz hc
  have qg:=W0 hc
  have sa:=hnd
  have hm6:I64 (cl s ((ncB s.c (idxB (unmk (s.th p).curr)) 2))):=H.cl6 (i:=(ncB s.c (idxB (unmk (s.th p).curr)) 2))
  by_cases hm:isMk (cl s ((ncB s.c (idxB (unmk (s.th p).curr)) 2)))=true
  ·rw [X4 hc,Xu hc,Zl hnd,if_pos hm]
   exact LK
  ·by_cases hk2:(s.th p).op.k=2
   ·rw [X4 hc,Xu hc,Zl hnd,if_neg hm,if_pos hk2]
    exact LK
   ·rw [X4 hc,Xu hc,Zl hnd,if_neg hm,if_neg hk2]
    exact LK
 ·have hm:¬isMk 0=true:=by decide
  rcases Qj hc with q1 | ⟨q1,q0⟩ | ⟨q1,q3,q0⟩
  ·by_cases hk2:(s.th p).op.k=2
   ·rw [X6 hc,Xw hc,Wi,if_neg hm,if_pos hk2]
    exact LK
   ·rw [X6 hc,Xw hc,Wi,if_neg hm,if_neg hk2]
    exact LK
  ·by_cases hk2:(s.th p).op.k=2
   ·rw [X6 hc,Xw hc,Wi,if_neg hm,if_pos hk2]
    exact LK
   ·rw [X6 hc,Xw hc,Wi,if_neg hm,if_neg hk2]
    exact LK
  ·have hnn:=Qk q1
   by_cases hk2:(s.th p).op.k=2
   ·rw [X6 hc,Xw hc,Wi,if_neg hm,if_pos hk2]
    exact LK
   ·rw [X6 hc,Xw hc,Wi,if_neg hm,if_neg hk2]
    exact LK
end Go.Proofs.YtbploohjimpcaaaGreat.A
