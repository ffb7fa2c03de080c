/- What the program's functions answer (Ko): no condition. -/
import Derived.Test.YtbploohjimpcaaaGreatGl
set_option linter.unusedVariables false
set_option linter.unusedSimpArgs false
namespace Go.Proofs.YtbploohjimpcaaaGreat.A
open Go Go.Abs
set_option maxRecDepth 100000
set_option maxHeartbeats 16000000
theorem R_60 {n:Nat} {s:Sta} {p:Nat} (hs:staB s=true) (hr:s.room) (hi:s.i64) (hp:p<s.ths.length) (h:(s.th p).pc=60):RK (n+15) s p:=by
 unfold RK;rw [Xa]
 obtain ⟨H,_,T,T6,_,hcf,_,_,_,_,_,_,_,_,_,r1,hL,_,_,w0,w1,w2,w3,_,hcl,_,_,_,_,_,_,x8⟩:=pre hs hr hi hp h (by decide)
 rw [stv,st60 h]
 have st1:=r1
 unfold sk60
 have hwi:=T6.2.2.2.2.2.1
 have hwn:=T.wk (by omega)
 rcases Yv (s.th p).work with hw | ⟨e,w,hw⟩
 ·rw [hw] at hwn;exact absurd rfl hwn
 ·have hwh:(s.th p).work.headD default=e:=by rw [hw];rfl
  have he6:I64 e.h:=hwi e (by rw [hw];exact List.mem_cons_self ..)
  have r5:((s.th p).work.map entA)[0]?=some (entA e):=by rw [hw];rfl
  have hwm:=lenC hw
  have hu6:I64 e.h:=he6
  have hv6:=Xy hu6
  have hf:(0:Int)≤2∧(2:Int)≤2:=by omega
  by_cases hc:curB s (unmk e.h)=true
  ·have hx4:=Wa H hc
   have hnd:=Z9 H hc hf
   have hxi:=Y3 (Vi hc)
   have q1:=Wz hc
   have qg:=W0 hc
   have sa:=hnd
   rw [hwh,X4 hc,Xu hc,Zl hnd]
   exact LK
  ·rcases Qj hc with q1 | ⟨q1,q0⟩ | ⟨q1,q3,q0⟩
   ·rw [hwh,X6 hc,Xw hc,Wi]
    exact LK
   ·rw [hwh,X6 hc,Xw hc,Wi]
    exact LK
   ·have hnn:=Qk q1
    rw [hwh,X6 hc,Xw hc,Wi]
    exact LK
theorem X6t {n:Nat} {s:Sta} {p:Nat} (hs:staB s=true) (hr:s.room) (hi:s.i64) (hp:p<s.ths.length) (h:(s.th p).pc=61) (hx:I64 (s.th p).seen) (hc:curB s (unmk ((s.th p).work.headD default).h)=true) (he:cl s (ncB s.c (idxB (unmk ((s.th p).work.headD default).h)) 2)=(s.th p).seen) (hch:cl s (ncB s.c (idxB (unmk ((s.th p).work.headD default).h)) 2)=mrk (s.th p).seen):RK (n+15) s p:=by
 unfold RK;rw [Xa]
 obtain ⟨H,_,T,T6,_,hcf,_,_,_,_,_,_,_,_,_,r1,hL,_,_,w0,w1,w2,w3,_,hcl,_,_,_,_,_,_,x8⟩:=pre hs hr hi hp h (by decide)
 rw [stv,st61 h]
 have st1:=r1
 unfold sk61
 have hwi:=T6.2.2.2.2.2.1
 have hwn:=T.wk (by omega)
 rcases Yv (s.th p).work with hw | ⟨e,w,hw⟩
 ·rw [hw] at hwn;exact absurd rfl hwn
 ·have hwh:(s.th p).work.headD default=e:=by rw [hw];rfl
  have he6:I64 e.h:=hwi e (by rw [hw];exact List.mem_cons_self ..)
  have r5:((s.th p).work.map entA)[0]?=some (entA e):=by rw [hw];rfl
  have hwm:=lenC hw
  rw [hwh] at hc he hch
  have hu6:I64 e.h:=he6
  have hv6:=Xy hu6
  have hf:(0:Int)≤2∧(2:Int)≤2:=by omega
  have hx4:=Wa H hc
  have hnd:=Z9 H hc hf
  have hxi:=Y3 (Vi hc)
  have q1:=Wz hc
  have qg:=W0 hc
  have sa:=hnd
  rw [hwh,X4 hc,Xu hc,if_pos (Yl sa he),Xs sa hch]
  exact LK
theorem X6u {n:Nat} {s:Sta} {p:Nat} (hs:staB s=true) (hr:s.room) (hi:s.i64) (hp:p<s.ths.length) (h:(s.th p).pc=61) (hx:I64 (s.th p).seen) (hc:curB s (unmk ((s.th p).work.headD default).h)=true) (he:cl s (ncB s.c (idxB (unmk ((s.th p).work.headD default).h)) 2)=(s.th p).seen) (hch:¬cl s (ncB s.c (idxB (unmk ((s.th p).work.headD default).h)) 2)=mrk (s.th p).seen):RK (n+15) s p:=by
 unfold RK;rw [Xa]
 obtain ⟨H,_,T,T6,_,hcf,_,_,_,_,_,_,_,_,_,r1,hL,_,_,w0,w1,w2,w3,_,hcl,_,_,_,_,_,_,x8⟩:=pre hs hr hi hp h (by decide)
 rw [stv,st61 h]
 have st1:=r1
 unfold sk61
 have hwi:=T6.2.2.2.2.2.1
 have hwn:=T.wk (by omega)
 rcases Yv (s.th p).work with hw | ⟨e,w,hw⟩
 ·rw [hw] at hwn;exact absurd rfl hwn
 ·have hwh:(s.th p).work.headD default=e:=by rw [hw];rfl
  have he6:I64 e.h:=hwi e (by rw [hw];exact List.mem_cons_self ..)
  have r5:((s.th p).work.map entA)[0]?=some (entA e):=by rw [hw];rfl
  have hwm:=lenC hw
  rw [hwh] at hc he hch
  have hu6:I64 e.h:=he6
  have hv6:=Xy hu6
  have hf:(0:Int)≤2∧(2:Int)≤2:=by omega
  have hx4:=Wa H hc
  have hnd:=Z9 H hc hf
  have hxi:=Y3 (Vi hc)
  have q1:=Wz hc
  have qg:=W0 hc
  have sa:=hnd
  rw [hwh,X4 hc,Xu hc,if_pos (Yl sa he),Xo sa hch]
  exact LK
theorem X6v {n:Nat} {s:Sta} {p:Nat} (hs:staB s=true) (hr:s.room) (hi:s.i64) (hp:p<s.ths.length) (h:(s.th p).pc=61) (hx:I64 (s.th p).seen) (hc:curB s (unmk ((s.th p).work.headD default).h)=true) (he:¬cl s (ncB s.c (idxB (unmk ((s.th p).work.headD default).h)) 2)=(s.th p).seen):RK (n+15) s p:=by
 unfold RK;rw [Xa]
 obtain ⟨H,_,T,T6,_,hcf,_,_,_,_,_,_,_,_,_,r1,hL,_,_,w0,w1,w2,w3,_,hcl,_,_,_,_,_,_,x8⟩:=pre hs hr hi hp h (by decide)
 rw [stv,st61 h]
 have st1:=r1
 unfold sk61
 have hwi:=T6.2.2.2.2.2.1
 have hwn:=T.wk (by omega)
 rcases Yv (s.th p).work with hw | ⟨e,w,hw⟩
 ·rw [hw] at hwn;exact absurd rfl hwn
 ·have hwh:(s.th p).work.headD default=e:=by rw [hw];rfl
  have he6:I64 e.h:=hwi e (by rw [hw];exact List.mem_cons_self ..)
  have r5:((s.th p).work.map entA)[0]?=some (entA e):=by rw [hw];rfl
  have hwm:=lenC hw
  rw [hwh] at hc he
  have hu6:I64 e.h:=he6
  have hv6:=Xy hu6
  have hf:(0:Int)≤2∧(2:Int)≤2:=by omega
  have hx4:=Wa H hc
  have hnd:=Z9 H hc hf
  have hxi:=Y3 (Vi hc)
  have q1:=Wz hc
  have qg:=W0 hc
  have sa:=hnd
  rw [hwh,X4 hc,Xu hc,if_neg (Xdk he),Qq]
  exact LK
theorem X6w {n:Nat} {s:Sta} {p:Nat} (hs:staB s=true) (hr:s.room) (hi:s.i64) (hp:p<s.ths.length) (h:(s.th p).pc=61) (hx:I64 (s.th p).seen) (hc:¬curB s (unmk ((s.th p).work.headD default).h)=true):RK (n+15) s p:=by
 unfold RK;rw [Xa]
 obtain ⟨H,_,T,T6,_,hcf,_,_,_,_,_,_,_,_,_,r1,hL,_,_,w0,w1,w2,w3,_,hcl,_,_,_,_,_,_,x8⟩:=pre hs hr hi hp h (by decide)
 rw [stv,st61 h]
 have st1:=r1
 unfold sk61
 have hwi:=T6.2.2.2.2.2.1
 have hwn:=T.wk (by omega)
 rcases Yv (s.th p).work with hw | ⟨e,w,hw⟩
 ·rw [hw] at hwn;exact absurd rfl hwn
 ·have hwh:(s.th p).work.headD default=e:=by rw [hw];rfl
  have he6:I64 e.h:=hwi e (by rw [hw];exact List.mem_cons_self ..)
  have r5:((s.th p).work.map entA)[0]?=some (entA e):=by rw [hw];rfl
  have hwm:=lenC hw
  rw [hwh] at hc
  have hu6:I64 e.h:=he6
  have hv6:=Xy hu6
  have hf:(0:Int)≤2∧(2:Int)≤2:=by omega
  rcases Qj hc with q1 | ⟨q1,q0⟩ | ⟨q1,q3,q0⟩
  ·rw [hwh,X6 hc,Xw hc,if_neg Xf3,Qq]
   exact LK
  ·rw [hwh,X6 hc,Xw hc,if_neg Xf3,Qq]
   exact LK
  ·have hnn:=Qk q1
   rw [hwh,X6 hc,Xw hc,if_neg Xf3,Qq]
   exact LK
theorem R_61 {n:Nat} {s:Sta} {p:Nat} (hs:staB s=true) (hr:s.room) (hi:s.i64) (hp:p<s.ths.length) (h:(s.th p).pc=61) (hx:I64 (s.th p).seen):RK (n+15) s p:=by
 by_cases hc:curB s (unmk ((s.th p).work.headD default).h)=true
 ·by_cases he:cl s (ncB s.c (idxB (unmk ((s.th p).work.headD default).h)) 2)=(s.th p).seen
  ·by_cases hch:cl s (ncB s.c (idxB (unmk ((s.th p).work.headD default).h)) 2)=mrk (s.th p).seen
   ·exact X6t hs hr hi hp h hx hc he hch
   ·exact X6u hs hr hi hp h hx hc he hch
  ·exact X6v hs hr hi hp h hx hc he
 ·exact X6w hs hr hi hp h hx hc
theorem R_62 {n:Nat} {s:Sta} {p:Nat} (hs:staB s=true) (hr:s.room) (hi:s.i64) (hp:p<s.ths.length) (h:(s.th p).pc=62):RK (n+15) s p:=by
 unfold RK;rw [Xa]
 obtain ⟨H,_,_,T6,_,hcf,_,_,_,_,_,_,_,_,_,r1,hL,_,_,w0,w1,w2,w3,hpi,hcl,_,_,_,_,_,_,x8⟩:=pre hs hr hi hp h (by decide)
 rw [stv,st62 h]
 have st1:=r1
 unfold sk62
 have hj:(0:Int)≤0∧(0:Int)≤1:=by omega
 by_cases hch:cl s (hazB s.c (p:Int) 0)=0
 ·have sa:=Xj H hpi hj
  rw [Xs (Xj H hpi hj) hch]
  exact LK
 ·have sa:=Xj H hpi hj
  rw [Xo (Xj H hpi hj) hch]
  exact LK
end Go.Proofs.YtbploohjimpcaaaGreat.A
