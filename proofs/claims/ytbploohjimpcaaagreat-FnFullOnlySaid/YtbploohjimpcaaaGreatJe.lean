/- What the program's functions answer (Je): no condition. -/
import Derived.Test.YtbploohjimpcaaaGreatGl
set_option linter.unusedVariables false
set_option linter.unusedSimpArgs false
namespace Go.Proofs.YtbploohjimpcaaaGreat.A
open Go Go.Abs
set_option maxRecDepth 100000
set_option maxHeartbeats 16000000
theorem I_15 {n:Nat} {s:Sta} {p:Nat} (hs:staB s=true) (hr:s.room) (hi:s.i64) (hp:p<s.ths.length) (h:(s.th p).pc=15):IK (n+28) s p 247 306 []:=by
 unfold IK;rw [Xa]
 obtain ⟨H,_,_,T6,_,hcf,_,_,_,_,_,_,_,_,_,r1,hL,_,_,w0,w1,w2,w3,hpi,hcl,hro,_,_,_,_,_,x8⟩:=pre hs hr hi hp h (by decide)
 rw [stv,st15 h]
 have st1:=r1
 unfold sk15
 have hj:(0:Int)≤1∧(1:Int)≤1:=by omega
 have hn6:I64 (s.th p).next:=T6.2.2.2.1
 by_cases hch:cl s (hazB s.c (p:Int) 1)=(s.th p).curr
 ·by_cases h0:unmk (s.th p).next=0
  ·by_cases hk2:(s.th p).op.k=2
   ·have sa:=Xj H hpi hj
    rw [Xs (Xj H hpi hj) hch,Q9 (t:={s.th p with prev:=(s.th p).curr,curr:=unmk (s.th p).next}) h0 hk2]
    exact LJ
   ·rcases Yv (s.th p).work with hw | ⟨e,w,hw⟩
    ·have hwn:=lenN hw
     have sa:=Xj H hpi hj
     rw [Xs (Xj H hpi hj) hch,Xaa (t:={s.th p with prev:=(s.th p).curr,curr:=unmk (s.th p).next}) h0 hk2 hw]
     exact LJn
    ·have hwn:=lenC hw
     have sa:=Xj H hpi hj
     have hwl:=hro.2.2.2.1
     rw [hw,List.length_cons] at hwl
     have r5:((s.th p).work.map entA)[0]?=some (entA e):=by rw [hw];rfl
     have hwT:List.take ((((((s.th p).work.map entA)).length:Int)).toNat - Int.toNat 1) (List.drop (Int.toNat 1) ((s.th p).work.map entA))=w.map entA:=by rw [hw];simp only [List.map_cons,List.length_cons];exact List.take_of_length_le (by simp)
     have hwz:(if ((w.map entA).length:Int)>0 then (60:Int) else 62)=if w.length=0 then 62 else 60:=by rw [List.length_map];split <;> split <;> first | rfl | omega
     rw [Xs (Xj H hpi hj) hch,Vw (t:={s.th p with prev:=(s.th p).curr,curr:=unmk (s.th p).next}) h0 hk2 hw]
     exact LJg
  ·have sa:=Xj H hpi hj
   rw [Xs (Xj H hpi hj) hch,V9 (t:={s.th p with prev:=(s.th p).curr,curr:=unmk (s.th p).next}) h0]
   exact LJ
 ·by_cases h0:unmk (s.th p).next=0
  ·by_cases hk2:(s.th p).op.k=2
   ·have sa:=Xj H hpi hj
    rw [Xo (Xj H hpi hj) hch,Q9 (t:={s.th p with prev:=(s.th p).curr,curr:=unmk (s.th p).next}) h0 hk2]
    exact LJ
   ·rcases Yv (s.th p).work with hw | ⟨e,w,hw⟩
    ·have hwn:=lenN hw
     have sa:=Xj H hpi hj
     rw [Xo (Xj H hpi hj) hch,Xaa (t:={s.th p with prev:=(s.th p).curr,curr:=unmk (s.th p).next}) h0 hk2 hw]
     exact LJn
    ·have hwn:=lenC hw
     have sa:=Xj H hpi hj
     have hwl:=hro.2.2.2.1
     rw [hw,List.length_cons] at hwl
     have r5:((s.th p).work.map entA)[0]?=some (entA e):=by rw [hw];rfl
     have hwT:List.take ((((((s.th p).work.map entA)).length:Int)).toNat - Int.toNat 1) (List.drop (Int.toNat 1) ((s.th p).work.map entA))=w.map entA:=by rw [hw];simp only [List.map_cons,List.length_cons];exact List.take_of_length_le (by simp)
     have hwz:(if ((w.map entA).length:Int)>0 then (60:Int) else 62)=if w.length=0 then 62 else 60:=by rw [List.length_map];split <;> split <;> first | rfl | omega
     rw [Xo (Xj H hpi hj) hch,Vw (t:={s.th p with prev:=(s.th p).curr,curr:=unmk (s.th p).next}) h0 hk2 hw]
     exact LJg
  ·have sa:=Xj H hpi hj
   rw [Xo (Xj H hpi hj) hch,V9 (t:={s.th p with prev:=(s.th p).curr,curr:=unmk (s.th p).next}) h0]
   exact LJ
theorem I_18 {n:Nat} {s:Sta} {p:Nat} (hs:staB s=true) (hr:s.room) (hi:s.i64) (hp:p<s.ths.length) (h:(s.th p).pc=18):IK (n+28) s p 249 307 []:=by
 unfold IK;rw [Xa]
 obtain ⟨H,_,_,T6,_,hcf,_,_,_,_,_,_,_,_,_,r1,hL,_,_,w0,w1,w2,w3,_,hcl,_,_,_,_,_,_,x8⟩:=pre hs hr hi hp h (by decide)
 rw [stv,st18 h]
 have st1:=r1
 unfold sk18
 have hu6:I64 (s.th p).curr:=T6.2.2.1
 have hv6:=Xy hu6
 have hf:(0:Int)≤0∧(0:Int)≤2:=by omega
 by_cases hc:curB s (unmk (s.th p).curr)=true
 ·have hx4:=Wa H hc
  have hnd:=Z9 H hc hf
  have sa:=hnd
  by_cases he:cl s (ncB s.c (idxB (unmk (s.th p).curr)) 0)=0
  ·by_cases hch:cl s (ncB s.c (idxB (unmk (s.th p).curr)) 0)=(s.th p).seen
   ·rw [X4 hc,Xu hc,Un sa he,Xs sa hch]
    exact LJ
   ·rw [X4 hc,Xu hc,Un sa he,Xo sa hch]
    exact LJ
  ·rw [X4 hc,Xu hc,Xf2 he]
   exact LJ
 ·have hcn:curB s (unmk (s.th p).curr)=false:=by simpa only [Bool.not_eq_true] using hc
  rw [X6 hc,Xw hc,Xbk]
  exact LJ
theorem I_19 {n:Nat} {s:Sta} {p:Nat} (hs:staB s=true) (hr:s.room) (hi:s.i64) (hp:p<s.ths.length) (h:(s.th p).pc=19):IK (n+28) s p 249 307 []:=by
 unfold IK;rw [Xa]
 obtain ⟨H,_,_,T6,_,hcf,_,_,_,_,_,_,_,_,_,r1,hL,_,_,w0,w1,w2,w3,_,hcl,_,_,_,_,_,_,x8⟩:=pre hs hr hi hp h (by decide)
 rw [stv,st19 h]
 have st1:=r1
 unfold sk19
 have hu6:I64 (s.th p).curr:=T6.2.2.1
 have hv6:=Xy hu6
 have hf:(0:Int)≤1∧(1:Int)≤2:=by omega
 by_cases hc:curB s (unmk (s.th p).curr)=true
 ·have hx4:=Wa H hc
  have hnd:=Z9 H hc hf
  rw [X4 hc,Xu hc]
  exact LJ
 ·have hcn:curB s (unmk (s.th p).curr)=false:=by simpa only [Bool.not_eq_true] using hc
  rw [X6 hc,Xw hc]
  exact LJ
theorem I_20 {n:Nat} {s:Sta} {p:Nat} (hs:staB s=true) (hr:s.room) (hi:s.i64) (hp:p<s.ths.length) (h:(s.th p).pc=20):IK (n+28) s p 249 307 []:=by
 unfold IK;rw [Xa]
 obtain ⟨H,_,_,T6,_,hcf,_,_,_,_,_,_,_,_,_,r1,hL,_,_,w0,w1,w2,w3,hpi,hcl,_,_,_,_,_,_,x8⟩:=pre hs hr hi hp h (by decide)
 rw [stv,st20 h]
 have st1:=r1
 unfold sk20
 have hj:(0:Int)≤0∧(0:Int)≤1:=by omega
 by_cases hch:cl s (hazB s.c (p:Int) 0)=0
 ·have sa:=Xj H hpi hj
  rw [Xs (Xj H hpi hj) hch]
  exact LJ
 ·have sa:=Xj H hpi hj
  rw [Xo (Xj H hpi hj) hch]
  exact LJ
theorem I_21 {n:Nat} {s:Sta} {p:Nat} (hs:staB s=true) (hr:s.room) (hi:s.i64) (hp:p<s.ths.length) (h:(s.th p).pc=21):IK (n+28) s p 249 307 []:=by
 unfold IK;rw [Xa]
 obtain ⟨H,_,_,T6,_,hcf,_,_,_,_,_,_,_,_,_,r1,hL,_,_,w0,w1,w2,w3,hpi,hcl,_,_,_,_,_,_,x8⟩:=pre hs hr hi hp h (by decide)
 rw [stv,st21 h]
 have st1:=r1
 unfold sk21
 have hj:(0:Int)≤1∧(1:Int)≤1:=by omega
 by_cases hch:cl s (hazB s.c (p:Int) 1)=0
 ·have sa:=Xj H hpi hj
  rw [Xs (Xj H hpi hj) hch]
  exact LJ
 ·have sa:=Xj H hpi hj
  rw [Xo (Xj H hpi hj) hch]
  exact LJ
end Go.Proofs.YtbploohjimpcaaaGreat.A
