/- What the program's functions answer (Kf): no condition. -/
import Derived.Test.YtbploohjimpcaaaGreatGl
set_option linter.unusedVariables false
set_option linter.unusedSimpArgs false
namespace Go.Proofs.YtbploohjimpcaaaGreat.A
open Go Go.Abs
set_option maxRecDepth 100000
set_option maxHeartbeats 16000000
theorem X5i {n:Nat} {s:Sta} {p:Nat} (hs:staB s=true) (hr:s.room) (hi:s.i64) (hp:p<s.ths.length) (h:(s.th p).pc=14) (hp0:¬(s.th p).prev=0) (hc:curB s (unmk (s.th p).prev)=true) (he:cl s ((ncB s.c (idxB (unmk (s.th p).prev)) 2))=(s.th p).curr) (hch:cl s ((ncB s.c (idxB (unmk (s.th p).prev)) 2))=unmk (s.th p).next):RK (n+15) s p:=by
 unfold RK;rw [Xa]
 obtain ⟨H,_,_,T6,_,hcf,_,_,_,_,_,_,_,_,_,r1,hL,_,_,w0,w1,w2,w3,_,hcl,hro,_,_,_,_,_,x8⟩:=pre hs hr hi hp h (by decide)
 rw [stv,st14 h]
 have st1:=r1
 unfold sk14
 have hn6:I64 (s.th p).next:=T6.2.2.2.1
 have hu6:I64 (s.th p).prev:=T6.2.1
 have hv6:=Xy hu6
 have hf:(0:Int)≤2∧(2:Int)≤2:=by omega
 have hx4:=Wa H hc
 have hnd:=Z9 H hc hf
 have hxi:=Y3 (Vi hc)
 have q1:=Wz hc
 have qg:=W0 hc
 have sa:=hnd
 by_cases h0:unmk (s.th p).next=0
 ·by_cases hk2:(s.th p).op.k=2
  ·rw [Zh hp0,Zi hp0,X4 hc,Xu hc,if_pos (Yl sa he),Xs sa hch,Q9 (t:={s.th p with curr:=unmk (s.th p).next}) h0 hk2]
   exact LK
  ·rcases Yv (s.th p).work with hw | ⟨e,w,hw⟩
   ·have hwn:=lenN hw
    rw [Zh hp0,Zi hp0,X4 hc,Xu hc,if_pos (Yl sa he),Xs sa hch,Xaa (t:={s.th p with curr:=unmk (s.th p).next}) h0 hk2 hw]
    exact LK
   ·have hwn:=lenC hw
    by_cases hw0:w.length=0
    ·have hwl:=hro.2.2.2.1
     rw [hw,List.length_cons] at hwl
     have r5:((s.th p).work.map entA)[0]?=some (entA e):=by rw [hw];rfl
     have hwT:List.take ((((((s.th p).work.map entA)).length:Int)).toNat - Int.toNat 1) (List.drop (Int.toNat 1) ((s.th p).work.map entA))=w.map entA:=by rw [hw];simp only [List.map_cons,List.length_cons];exact List.take_of_length_le (by simp)
     have go9:decide (((List.take ((((((s.th p).work.map entA)).length:Int)).toNat - Int.toNat 1) (List.drop (Int.toNat 1) ((s.th p).work.map entA))).length:Int)>0)=false:=decide_eq_false (by rw [hwT,List.length_map];omega)
     have hwy:(if w.length=0 then (62:Int) else 60)=62:=if_pos hw0
     have x7:=fun {x y:R}=>Uk (x:=x) (y:=y) go9
     rw [Zh hp0,Zi hp0,X4 hc,Xu hc,if_pos (Yl sa he),Xs sa hch,Vw (t:={s.th p with curr:=unmk (s.th p).next}) h0 hk2 hw]
     exact LKg
    ·have hwl:=hro.2.2.2.1
     rw [hw,List.length_cons] at hwl
     have r5:((s.th p).work.map entA)[0]?=some (entA e):=by rw [hw];rfl
     have hwT:List.take ((((((s.th p).work.map entA)).length:Int)).toNat - Int.toNat 1) (List.drop (Int.toNat 1) ((s.th p).work.map entA))=w.map entA:=by rw [hw];simp only [List.map_cons,List.length_cons];exact List.take_of_length_le (by simp)
     have go9:decide (((List.take ((((((s.th p).work.map entA)).length:Int)).toNat - Int.toNat 1) (List.drop (Int.toNat 1) ((s.th p).work.map entA))).length:Int)>0)=true:=decide_eq_true (by rw [hwT,List.length_map];omega)
     have hwy:(if w.length=0 then (62:Int) else 60)=60:=if_neg hw0
     have x7:=fun {x y:R}=>Xn (x:=x) (y:=y) go9
     rw [Zh hp0,Zi hp0,X4 hc,Xu hc,if_pos (Yl sa he),Xs sa hch,Vw (t:={s.th p with curr:=unmk (s.th p).next}) h0 hk2 hw]
     exact LKg
 ·rw [Zh hp0,Zi hp0,X4 hc,Xu hc,if_pos (Yl sa he),Xs sa hch,V9 (t:={s.th p with curr:=unmk (s.th p).next}) h0]
  exact LK
theorem X5j {n:Nat} {s:Sta} {p:Nat} (hs:staB s=true) (hr:s.room) (hi:s.i64) (hp:p<s.ths.length) (h:(s.th p).pc=14) (hp0:¬(s.th p).prev=0) (hc:curB s (unmk (s.th p).prev)=true) (he:cl s ((ncB s.c (idxB (unmk (s.th p).prev)) 2))=(s.th p).curr) (hch:¬cl s ((ncB s.c (idxB (unmk (s.th p).prev)) 2))=unmk (s.th p).next):RK (n+15) s p:=by
 unfold RK;rw [Xa]
 obtain ⟨H,_,_,T6,_,hcf,_,_,_,_,_,_,_,_,_,r1,hL,_,_,w0,w1,w2,w3,_,hcl,hro,_,_,_,_,_,x8⟩:=pre hs hr hi hp h (by decide)
 rw [stv,st14 h]
 have st1:=r1
 unfold sk14
 have hn6:I64 (s.th p).next:=T6.2.2.2.1
 have hu6:I64 (s.th p).prev:=T6.2.1
 have hv6:=Xy hu6
 have hf:(0:Int)≤2∧(2:Int)≤2:=by omega
 have hx4:=Wa H hc
 have hnd:=Z9 H hc hf
 have hxi:=Y3 (Vi hc)
 have q1:=Wz hc
 have qg:=W0 hc
 have sa:=hnd
 by_cases h0:unmk (s.th p).next=0
 ·by_cases hk2:(s.th p).op.k=2
  ·rw [Zh hp0,Zi hp0,X4 hc,Xu hc,if_pos (Yl sa he),Xo sa hch,Q9 (t:={s.th p with curr:=unmk (s.th p).next}) h0 hk2]
   exact LK
  ·rcases Yv (s.th p).work with hw | ⟨e,w,hw⟩
   ·have hwn:=lenN hw
    rw [Zh hp0,Zi hp0,X4 hc,Xu hc,if_pos (Yl sa he),Xo sa hch,Xaa (t:={s.th p with curr:=unmk (s.th p).next}) h0 hk2 hw]
    exact LK
   ·have hwn:=lenC hw
    by_cases hw0:w.length=0
    ·have hwl:=hro.2.2.2.1
     rw [hw,List.length_cons] at hwl
     have r5:((s.th p).work.map entA)[0]?=some (entA e):=by rw [hw];rfl
     have hwT:List.take ((((((s.th p).work.map entA)).length:Int)).toNat - Int.toNat 1) (List.drop (Int.toNat 1) ((s.th p).work.map entA))=w.map entA:=by rw [hw];simp only [List.map_cons,List.length_cons];exact List.take_of_length_le (by simp)
     have go9:decide (((List.take ((((((s.th p).work.map entA)).length:Int)).toNat - Int.toNat 1) (List.drop (Int.toNat 1) ((s.th p).work.map entA))).length:Int)>0)=false:=decide_eq_false (by rw [hwT,List.length_map];omega)
     have hwy:(if w.length=0 then (62:Int) else 60)=62:=if_pos hw0
     have x7:=fun {x y:R}=>Uk (x:=x) (y:=y) go9
     rw [Zh hp0,Zi hp0,X4 hc,Xu hc,if_pos (Yl sa he),Xo sa hch,Vw (t:={s.th p with curr:=unmk (s.th p).next}) h0 hk2 hw]
     exact LKg
    ·have hwl:=hro.2.2.2.1
     rw [hw,List.length_cons] at hwl
     have r5:((s.th p).work.map entA)[0]?=some (entA e):=by rw [hw];rfl
     have hwT:List.take ((((((s.th p).work.map entA)).length:Int)).toNat - Int.toNat 1) (List.drop (Int.toNat 1) ((s.th p).work.map entA))=w.map entA:=by rw [hw];simp only [List.map_cons,List.length_cons];exact List.take_of_length_le (by simp)
     have go9:decide (((List.take ((((((s.th p).work.map entA)).length:Int)).toNat - Int.toNat 1) (List.drop (Int.toNat 1) ((s.th p).work.map entA))).length:Int)>0)=true:=decide_eq_true (by rw [hwT,List.length_map];omega)
     have hwy:(if w.length=0 then (62:Int) else 60)=60:=if_neg hw0
     have x7:=fun {x y:R}=>Xn (x:=x) (y:=y) go9
     rw [Zh hp0,Zi hp0,X4 hc,Xu hc,if_pos (Yl sa he),Xo sa hch,Vw (t:={s.th p with curr:=unmk (s.th p).next}) h0 hk2 hw]
     exact LKg
 ·rw [Zh hp0,Zi hp0,X4 hc,Xu hc,if_pos (Yl sa he),Xo sa hch,V9 (t:={s.th p with curr:=unmk (s.th p).next}) h0]
  exact LK
theorem X5k {n:Nat} {s:Sta} {p:Nat} (hs:staB s=true) (hr:s.room) (hi:s.i64) (hp:p<s.ths.length) (h:(s.th p).pc=14) (hp0:¬(s.th p).prev=0) (hc:¬curB s (unmk (s.th p).prev)=true):RK (n+15) s p:=by
 unfold RK;rw [Xa]
 obtain ⟨H,_,_,T6,_,hcf,_,_,_,_,_,_,_,_,_,r1,hL,_,_,w0,w1,w2,w3,_,hcl,_,_,_,_,_,_,x8⟩:=pre hs hr hi hp h (by decide)
 rw [stv,st14 h]
 have st1:=r1
 unfold sk14
 have hn6:I64 (s.th p).next:=T6.2.2.2.1
 have hu6:I64 (s.th p).prev:=T6.2.1
 have hv6:=Xy hu6
 have hf:(0:Int)≤2∧(2:Int)≤2:=by omega
 rcases Qj hc with q1 | ⟨q1,q0⟩ | ⟨q1,q3,q0⟩
 ·rw [Zh hp0,Zi hp0,X6 hc,Xw hc,if_neg Xf3,Qq]
  exact LK
 ·rw [Zh hp0,Zi hp0,X6 hc,Xw hc,if_neg Xf3,Qq]
  exact LK
 ·have hnn:=Qk q1
  rw [Zh hp0,Zi hp0,X6 hc,Xw hc,if_neg Xf3,Qq]
  exact LK
end Go.Proofs.YtbploohjimpcaaaGreat.A
