/- What the program's functions answer (Jb): no condition. -/
import Derived.Test.YtbploohjimpcaaaGreatGl
set_option linter.unusedVariables false
set_option linter.unusedSimpArgs false
namespace Go.Proofs.YtbploohjimpcaaaGreat.A
open Go Go.Abs
set_option maxRecDepth 100000
set_option maxHeartbeats 16000000
theorem I_10 {n:Nat} {s:Sta} {p:Nat} (hs:staB s=true) (hr:s.room) (hi:s.i64) (hp:p<s.ths.length) (h:(s.th p).pc=10):IK (n+28) s p 247 306 []:=by
 unfold IK;rw [Xa]
 obtain ⟨H,_,T,T6,_,hcf,_,_,_,_,_,_,_,hpc0,_,r1,hL,_,_,w0,w1,w2,w3,_,hcl,hro,_,_,_,_,_,x8⟩:=pre hs hr hi hp h (by decide)
 rw [stv,st10 h]
 have st1:=r1
 unfold sk10
 have hwk:=Vq T hpc0
 have hk4:0≤wKey (s.th p)∧wKey (s.th p)<4:=by omega
 have hww:(s.th p).work.length≤1048576:=hro.2.2.2.1
 have hhd:=Wo H hwk
 have hu6:I64 (ldL s.cells (X2 s.c (wKey (s.th p)))):=H.ld6 (i:=X2 s.c (wKey (s.th p)))
 by_cases h0:unmk (ld s (X2 s.c (wKey (s.th p))))=0
 ·by_cases hk2:(s.th p).op.k=2
  ·rw [Q9 (t:={s.th p with prev:=0,curr:=unmk (ld s (X2 s.c (wKey (s.th p))))}) h0 hk2]
   exact LJ
  ·rcases Yv (s.th p).work with hw | ⟨e,w,hw⟩
   ·have hwn:=lenN hw
    rw [Xaa (t:={s.th p with prev:=0,curr:=unmk (ld s (X2 s.c (wKey (s.th p))))}) h0 hk2 hw]
    exact LJn
   ·have hwn:=lenC hw
    have hwl:=hro.2.2.2.1
    rw [hw,List.length_cons] at hwl
    have r5:((s.th p).work.map entA)[0]?=some (entA e):=by rw [hw];rfl
    have hwT:List.take ((((((s.th p).work.map entA)).length:Int)).toNat - Int.toNat 1) (List.drop (Int.toNat 1) ((s.th p).work.map entA))=w.map entA:=by rw [hw];simp only [List.map_cons,List.length_cons];exact List.take_of_length_le (by simp)
    have hwz:(if ((w.map entA).length:Int)>0 then (60:Int) else 62)=if w.length=0 then 62 else 60:=by rw [List.length_map];split <;> split <;> first | rfl | omega
    rw [Vw (t:={s.th p with prev:=0,curr:=unmk (ld s (X2 s.c (wKey (s.th p))))}) h0 hk2 hw]
    exact LJg
 ·rw [V9 (t:={s.th p with prev:=0,curr:=unmk (ld s (X2 s.c (wKey (s.th p))))}) h0]
  exact LJ
theorem I_11 {n:Nat} {s:Sta} {p:Nat} (hs:staB s=true) (hr:s.room) (hi:s.i64) (hp:p<s.ths.length) (h:(s.th p).pc=11):IK (n+28) s p 247 306 []:=by
 unfold IK;rw [Xa]
 obtain ⟨H,_,_,T6,_,hcf,_,_,_,_,_,_,_,_,_,r1,hL,_,_,w0,w1,w2,w3,hpi,hcl,_,_,_,_,_,_,x8⟩:=pre hs hr hi hp h (by decide)
 rw [stv,st11 h]
 have st1:=r1
 unfold sk11
 have hj:(0:Int)≤0∧(0:Int)≤1:=by omega
 by_cases hch:cl s (hazB s.c (p:Int) 0)=(s.th p).curr
 ·have sa:=Xj H hpi hj
  rw [Xs (Xj H hpi hj) hch]
  exact LJ
 ·have sa:=Xj H hpi hj
  rw [Xo (Xj H hpi hj) hch]
  exact LJ
theorem I_12 {n:Nat} {s:Sta} {p:Nat} (hs:staB s=true) (hr:s.room) (hi:s.i64) (hp:p<s.ths.length) (h:(s.th p).pc=12):IK (n+28) s p 247 306 []:=by
 unfold IK;rw [Xa]
 obtain ⟨H,_,T,T6,_,hcf,_,_,_,_,_,_,_,hpc0,_,r1,hL,_,_,w0,w1,w2,w3,_,hcl,hro,_,_,_,_,_,x8⟩:=pre hs hr hi hp h (by decide)
 rw [stv,st12 h]
 have st1:=r1
 unfold sk12
 by_cases hp0:(s.th p).prev=0
 ·have hwk:=Vq T hpc0
  have hk4:0≤wKey (s.th p)∧wKey (s.th p)<4:=by omega
  have hww:(s.th p).work.length≤1048576:=hro.2.2.2.1
  have hhd:=Wo H hwk
  by_cases he:ld s (X2 s.c (wKey (s.th p)))=(s.th p).curr
  ·rw [Zp hp0,Zq hp0,if_pos he,Xc5 (decide_eq_true he)]
   exact LJ
  ·rw [Zp hp0,Zq hp0,if_neg he,Xc6 (by simpa using he)]
   exact LJ
 ·have hu6:I64 (s.th p).prev:=T6.2.1
  have hv6:=Xy hu6
  have hf:(0:Int)≤2∧(2:Int)≤2:=by omega
  by_cases hc:curB s (unmk (s.th p).prev)=true
  ·have hx4:=Wa H hc
   have hnd:=Z9 H hc hf
   by_cases he:ld s ((ncB s.c (idxB (unmk (s.th p).prev)) 2))=(s.th p).curr
   ·rw [Zh hp0,Zi hp0,X4 hc,Xu hc,if_pos he,Xc5 (decide_eq_true he)]
    exact LJ
   ·rw [Zh hp0,Zi hp0,X4 hc,Xu hc,if_neg he,Xc6 (by simpa using he)]
    exact LJ
  ·have hcn:curB s (unmk (s.th p).prev)=false:=by simpa only [Bool.not_eq_true] using hc
   by_cases he:ld s (-1)=(s.th p).curr
   ·rw [Zh hp0,Zi hp0,X6 hc,Xw hc,if_pos he,Xc5 (decide_eq_true he)]
    exact LJ
   ·rw [Zh hp0,Zi hp0,X6 hc,Xw hc,if_neg he,Xc6 (by simpa using he)]
    exact LJ
theorem I_13 {n:Nat} {s:Sta} {p:Nat} (hs:staB s=true) (hr:s.room) (hi:s.i64) (hp:p<s.ths.length) (h:(s.th p).pc=13):IK (n+28) s p 247 306 []:=by
 unfold IK;rw [Xa]
 obtain ⟨H,_,_,T6,_,hcf,_,_,_,_,_,_,_,_,_,r1,hL,_,_,w0,w1,w2,w3,_,hcl,_,_,_,_,_,_,x8⟩:=pre hs hr hi hp h (by decide)
 rw [stv,st13 h]
 have st1:=r1
 unfold sk13
 have hu6:I64 (s.th p).curr:=T6.2.2.1
 have hv6:=Xy hu6
 have hf:(0:Int)≤2∧(2:Int)≤2:=by omega
 by_cases hc:curB s (unmk (s.th p).curr)=true
 ·have hx4:=Wa H hc
  have hnd:=Z9 H hc hf
  have hm6:I64 (ldL s.cells (ncB s.c (idxB (unmk (s.th p).curr)) 2)):=H.ld6 (i:=(ncB s.c (idxB (unmk (s.th p).curr)) 2))
  rw [X4 hc,Xu hc]
  exact LJ
 ·have hcn:curB s (unmk (s.th p).curr)=false:=by simpa only [Bool.not_eq_true] using hc
  have hm6:I64 (ldL s.cells (-1)):=H.ld6 (i:=-1)
  rw [X6 hc,Xw hc]
  exact LJ
end Go.Proofs.YtbploohjimpcaaaGreat.A
