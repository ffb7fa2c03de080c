/- What the program's functions answer (Jd): no condition. -/
import Derived.Test.YtbploohjimpcaaaGreatGl
import Derived.Test.YtbploohjimpcaaaGreatJc
set_option linter.unusedVariables false
set_option linter.unusedSimpArgs false
namespace Go.Proofs.YtbploohjimpcaaaGreat.A
open Go Go.Abs
set_option maxRecDepth 100000
set_option maxHeartbeats 16000000
theorem X6i {n:Nat} {s:Sta} {p:Nat} (hs:staB s=true) (hr:s.room) (hi:s.i64) (hp:p<s.ths.length) (h:(s.th p).pc=14) (hp0:¬(s.th p).prev=0):IK (n+28) s p 247 306 []:=by
 unfold IK;rw [Xa]
 obtain ⟨H,_,_,T6,_,hcf,_,_,_,_,_,_,_,_,_,r1,hL,_,_,w0,w1,w2,w3,_,hcl,hro,_,_,_,_,_,x8⟩:=pre hs hr hi hp h (by decide)
 rw [stv,st14 h]
 have st1:=r1
 unfold sk14
 have hn6:I64 (s.th p).next:=T6.2.2.2.1
 have hu6:I64 (s.th p).prev:=T6.2.1
 have hv6:=Xy hu6
 have hf:(0:Int)≤2∧(2:Int)≤2:=by omega
 by_cases hc:curB s (unmk (s.th p).prev)=true
 ·have hx4:=Wa H hc
  have hnd:=Z9 H hc hf
  have sa:=hnd
  by_cases he:cl s ((ncB s.c (idxB (unmk (s.th p).prev)) 2))=(s.th p).curr
  ·by_cases hch:cl s ((ncB s.c (idxB (unmk (s.th p).prev)) 2))=unmk (s.th p).next
   ·by_cases h0:unmk (s.th p).next=0
    ·by_cases hk2:(s.th p).op.k=2
     ·rw [Zh hp0,Zi hp0,X4 hc,Xu hc,if_pos (Yl sa he),Xs sa hch,Q9 (t:={s.th p with curr:=unmk (s.th p).next}) h0 hk2]
      exact LJ
     ·rcases Yv (s.th p).work with hw | ⟨e,w,hw⟩
      ·have hwn:=lenN hw
       rw [Zh hp0,Zi hp0,X4 hc,Xu hc,if_pos (Yl sa he),Xs sa hch,Xaa (t:={s.th p with curr:=unmk (s.th p).next}) h0 hk2 hw]
       exact LJn
      ·have hwn:=lenC hw
       have hwl:=hro.2.2.2.1
       rw [hw,List.length_cons] at hwl
       have r5:((s.th p).work.map entA)[0]?=some (entA e):=by rw [hw];rfl
       have hwT:List.take ((((((s.th p).work.map entA)).length:Int)).toNat - Int.toNat 1) (List.drop (Int.toNat 1) ((s.th p).work.map entA))=w.map entA:=by rw [hw];simp only [List.map_cons,List.length_cons];exact List.take_of_length_le (by simp)
       have hwz:(if ((w.map entA).length:Int)>0 then (60:Int) else 62)=if w.length=0 then 62 else 60:=by rw [List.length_map];split <;> split <;> first | rfl | omega
       rw [Zh hp0,Zi hp0,X4 hc,Xu hc,if_pos (Yl sa he),Xs sa hch,Vw (t:={s.th p with curr:=unmk (s.th p).next}) h0 hk2 hw]
       exact LJg
    ·rw [Zh hp0,Zi hp0,X4 hc,Xu hc,if_pos (Yl sa he),Xs sa hch,V9 (t:={s.th p with curr:=unmk (s.th p).next}) h0]
     exact LJ
   ·by_cases h0:unmk (s.th p).next=0
    ·by_cases hk2:(s.th p).op.k=2
     ·rw [Zh hp0,Zi hp0,X4 hc,Xu hc,if_pos (Yl sa he),Xo sa hch,Q9 (t:={s.th p with curr:=unmk (s.th p).next}) h0 hk2]
      exact LJ
     ·rcases Yv (s.th p).work with hw | ⟨e,w,hw⟩
      ·have hwn:=lenN hw
       rw [Zh hp0,Zi hp0,X4 hc,Xu hc,if_pos (Yl sa he),Xo sa hch,Xaa (t:={s.th p with curr:=unmk (s.th p).next}) h0 hk2 hw]
       exact LJn
      ·have hwn:=lenC hw
       have hwl:=hro.2.2.2.1
       rw [hw,List.length_cons] at hwl
       have r5:((s.th p).work.map entA)[0]?=some (entA e):=by rw [hw];rfl
       have hwT:List.take ((((((s.th p).work.map entA)).length:Int)).toNat - Int.toNat 1) (List.drop (Int.toNat 1) ((s.th p).work.map entA))=w.map entA:=by rw [hw];simp only [List.map_cons,List.length_cons];exact List.take_of_length_le (by simp)
       have hwz:(if ((w.map entA).length:Int)>0 then (60:Int) else 62)=if w.length=0 then 62 else 60:=by rw [List.length_map];split <;> split <;> first | rfl | omega
       rw [Zh hp0,Zi hp0,X4 hc,Xu hc,if_pos (Yl sa he),Xo sa hch,Vw (t:={s.th p with curr:=unmk (s.th p).next}) h0 hk2 hw]
       exact LJg
    ·rw [Zh hp0,Zi hp0,X4 hc,Xu hc,if_pos (Yl sa he),Xo sa hch,V9 (t:={s.th p with curr:=unmk (s.th p).next}) h0]
     exact LJ
  ·rw [Zh hp0,Zi hp0,X4 hc,Xu hc,if_neg (Xdk he),Qq]
   exact LJ
 ·have hcn:curB s (unmk (s.th p).prev)=false:=by simpa only [Bool.not_eq_true] using hc
  rw [Zh hp0,Zi hp0,X6 hc,Xw hc,if_neg Xf3,Qq]
  exact LJ
theorem I_14 {n:Nat} {s:Sta} {p:Nat} (hs:staB s=true) (hr:s.room) (hi:s.i64) (hp:p<s.ths.length) (h:(s.th p).pc=14):IK (n+46) s p 247 306 []:=by
 by_cases hp0:(s.th p).prev=0
 ·exact X6h hs hr hi hp h hp0
 ·exact X6i hs hr hi hp h hp0
end Go.Proofs.YtbploohjimpcaaaGreat.A
