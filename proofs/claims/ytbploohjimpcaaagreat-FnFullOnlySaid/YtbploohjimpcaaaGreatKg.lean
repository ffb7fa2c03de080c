/- What the program's functions answer (Kg): no condition. -/
import Derived.Test.YtbploohjimpcaaaGreatKd
import Derived.Test.YtbploohjimpcaaaGreatKe
import Derived.Test.YtbploohjimpcaaaGreatKf
import Derived.Test.YtbploohjimpcaaaGreatGl
set_option linter.unusedVariables false
set_option linter.unusedSimpArgs false
namespace Go.Proofs.YtbploohjimpcaaaGreat.A
open Go Go.Abs
set_option maxRecDepth 100000
set_option maxHeartbeats 16000000
theorem R_14 {n:Nat} {s:Sta} {p:Nat} (hs:staB s=true) (hr:s.room) (hi:s.i64) (hp:p<s.ths.length) (h:(s.th p).pc=14):RK (n+15) s p:=by
 by_cases hp0:(s.th p).prev=0
 ·by_cases hk2:(s.th p).op.k=2
  ·by_cases he:cl s (X2 s.c (s.th p).op.key)=(s.th p).curr
   ·by_cases hch:cl s (X2 s.c (s.th p).op.key)=unmk (s.th p).next
    ·exact X5c hs hr hi hp h hp0 hk2 he hch
    ·exact X5e hs hr hi hp h hp0 hk2 he hch
   ·exact X48 hs hr hi hp h hp0 hk2 he
  ·rcases Yv (s.th p).work with hw | ⟨e,w,hw⟩
   ·by_cases he:cl s (X2 s.c (s.th p).op.key)=(s.th p).curr
    ·by_cases hch:cl s (X2 s.c (s.th p).op.key)=unmk (s.th p).next
     ·exact X5d hs hr hi hp h hp0 hk2 hw he hch
     ·exact X5f hs hr hi hp h hp0 hk2 hw he hch
    ·exact X49 hs hr hi hp h hp0 hk2 hw he
   ·by_cases he:cl s (X2 s.c e.key)=(s.th p).curr
    ·by_cases hch:cl s (X2 s.c e.key)=unmk (s.th p).next
     ·exact X5g hs hr hi hp h hp0 hk2 hw he hch
     ·exact X5h hs hr hi hp h hp0 hk2 hw he hch
    ·exact X5a hs hr hi hp h hp0 hk2 hw he
 ·by_cases hc:curB s (unmk (s.th p).prev)=true
  ·by_cases he:cl s ((ncB s.c (idxB (unmk (s.th p).prev)) 2))=(s.th p).curr
   ·by_cases hch:cl s ((ncB s.c (idxB (unmk (s.th p).prev)) 2))=unmk (s.th p).next
    ·exact X5i hs hr hi hp h hp0 hc he hch
    ·exact X5j hs hr hi hp h hp0 hc he hch
   ·exact X5b hs hr hi hp h hp0 hc he
  ·exact X5k hs hr hi hp h hp0 hc
theorem R_15 {n:Nat} {s:Sta} {p:Nat} (hs:staB s=true) (hr:s.room) (hi:s.i64) (hp:p<s.ths.length) (h:(s.th p).pc=15):RK (n+15) s p:=by
 unfold RK;rw [Xa]
 obtain ⟨H,_,_,T6,_,hcf,_,_,_,_,_,_,_,_,_,r1,hL,_,_,w0,w1,w2,w3,hpi,hcl,hro,_,_,_,_,_,x8⟩:=pre hs hr hi hp h (by decide)
 rw [stv,st15 h]
 have st1:=r1
 unfold sk15
 have hn6:I64 (s.th p).next:=T6.2.2.2.1
 have hj:(0:Int)≤1∧(1:Int)≤1:=by omega
 by_cases hch:cl s (hazB s.c (p:Int) 1)=(s.th p).curr
 ·by_cases h0:unmk (s.th p).next=0
  ·by_cases hk2:(s.th p).op.k=2
   ·have sa:=Xj H hpi hj
    rw [Xs (Xj H hpi hj) hch,Q9 (t:={s.th p with prev:=(s.th p).curr,curr:=unmk (s.th p).next}) h0 hk2]
    exact LK
   ·rcases Yv (s.th p).work with hw | ⟨e,w,hw⟩
    ·have hwn:=lenN hw
     have sa:=Xj H hpi hj
     rw [Xs (Xj H hpi hj) hch,Xaa (t:={s.th p with prev:=(s.th p).curr,curr:=unmk (s.th p).next}) h0 hk2 hw]
     exact LK
    ·have hwn:=lenC hw
     by_cases hw0:w.length=0
     ·have sa:=Xj H hpi hj
      have hwl:=hro.2.2.2.1
      rw [hw,List.length_cons] at hwl
      have r5:((s.th p).work.map entA)[0]?=some (entA e):=by rw [hw];rfl
      have hwT:List.take ((((((s.th p).work.map entA)).length:Int)).toNat - Int.toNat 1) (List.drop (Int.toNat 1) ((s.th p).work.map entA))=w.map entA:=by rw [hw];simp only [List.map_cons,List.length_cons];exact List.take_of_length_le (by simp)
      have go9:decide (((List.take ((((((s.th p).work.map entA)).length:Int)).toNat - Int.toNat 1) (List.drop (Int.toNat 1) ((s.th p).work.map entA))).length:Int)>0)=false:=decide_eq_false (by rw [hwT,List.length_map];omega)
      have hwy:(if w.length=0 then (62:Int) else 60)=62:=if_pos hw0
      have x7:=fun {x y:R}=>Uk (x:=x) (y:=y) go9
      rw [Xs (Xj H hpi hj) hch,Vw (t:={s.th p with prev:=(s.th p).curr,curr:=unmk (s.th p).next}) h0 hk2 hw]
      exact LKg
     ·have sa:=Xj H hpi hj
      have hwl:=hro.2.2.2.1
      rw [hw,List.length_cons] at hwl
      have r5:((s.th p).work.map entA)[0]?=some (entA e):=by rw [hw];rfl
      have hwT:List.take ((((((s.th p).work.map entA)).length:Int)).toNat - Int.toNat 1) (List.drop (Int.toNat 1) ((s.th p).work.map entA))=w.map entA:=by rw [hw];simp only [List.map_cons,List.length_cons];exact List.take_of_length_le (by simp)
      have go9:decide (((List.take ((((((s.th p).work.map entA)).length:Int)).toNat - Int.toNat 1) (List.drop (Int.toNat 1) ((s.th p).work.map entA))).length:Int)>0)=true:=decide_eq_true (by rw [hwT,List.length_map];omega)
      have hwy:(if w.length=0 then (62:Int) else 60)=60:=if_neg hw0
      have x7:=fun {x y:R}=>Xn (x:=x) (y:=y) go9
      rw [Xs (Xj H hpi hj) hch,Vw (t:={s.th p with prev:=(s.th p).curr,curr:=unmk (s.th p).next}) h0 hk2 hw]
      exact LKg
  ·have sa:=Xj H hpi hj
   rw [Xs (Xj H hpi hj) hch,V9 (t:={s.th p with prev:=(s.th p).curr,curr:=unmk (s.th p).next}) h0]
   exact LK
 ·by_cases h0:unmk (s.th p).next=0
  ·by_cases hk2:(s.th p).op.k=2
   ·have sa:=Xj H hpi hj
    rw [Xo (Xj H hpi hj) hch,Q9 (t:={s.th p with prev:=(s.th p).curr,curr:=unmk (s.th p).next}) h0 hk2]
    exact LK
   ·rcases Yv (s.th p).work with hw | ⟨e,w,hw⟩
    ·have hwn:=lenN hw
     have sa:=Xj H hpi hj
     rw [Xo (Xj H hpi hj) hch,Xaa (t:={s.th p with prev:=(s.th p).curr,curr:=unmk (s.th p).next}) h0 hk2 hw]
     exact LK
    ·have hwn:=lenC hw
     by_cases hw0:w.length=0
     ·have sa:=Xj H hpi hj
      have hwl:=hro.2.2.2.1
      rw [hw,List.length_cons] at hwl
      have r5:((s.th p).work.map entA)[0]?=some (entA e):=by rw [hw];rfl
      have hwT:List.take ((((((s.th p).work.map entA)).length:Int)).toNat - Int.toNat 1) (List.drop (Int.toNat 1) ((s.th p).work.map entA))=w.map entA:=by rw [hw];simp only [List.map_cons,List.length_cons];exact List.take_of_length_le (by simp)
      have go9:decide (((List.take ((((((s.th p).work.map entA)).length:Int)).toNat - Int.toNat 1) (List.drop (Int.toNat 1) ((s.th p).work.map entA))).length:Int)>0)=false:=decide_eq_false (by rw [hwT,List.length_map];omega)
      have hwy:(if w.length=0 then (62:Int) else 60)=62:=if_pos hw0
      have x7:=fun {x y:R}=>Uk (x:=x) (y:=y) go9
      rw [Xo (Xj H hpi hj) hch,Vw (t:={s.th p with prev:=(s.th p).curr,curr:=unmk (s.th p).next}) h0 hk2 hw]
      exact LKg
     ·have sa:=Xj H hpi hj
      have hwl:=hro.2.2.2.1
      rw [hw,List.length_cons] at hwl
      have r5:((s.th p).work.map entA)[0]?=some (entA e):=by rw [hw];rfl
      have hwT:List.take ((((((s.th p).work.map entA)).length:Int)).toNat - Int.toNat 1) (List.drop (Int.toNat 1) ((s.th p).work.map entA))=w.map entA:=by rw [hw];simp only [List.map_cons,List.length_cons];exact List.take_of_length_le (by simp)
      have go9:decide (((List.take ((((((s.th p).work.map entA)).length:Int)).toNat - Int.toNat 1) (List.drop (Int.toNat 1) ((s.th p).work.map entA))).length:Int)>0)=true:=decide_eq_true (by rw [hwT,List.length_map];omega)
      have hwy:(if w.length=0 then (62:Int) else 60)=60:=if_neg hw0
      have x7:=fun {x y:R}=>Xn (x:=x) (y:=y) go9
      rw [Xo (Xj H hpi hj) hch,Vw (t:={s.th p with prev:=(s.th p).curr,curr:=unmk (s.th p).next}) h0 hk2 hw]
      exact LKg
  ·have sa:=Xj H hpi hj
   rw [Xo (Xj H hpi hj) hch,V9 (t:={s.th p with prev:=(s.th p).curr,curr:=unmk (s.th p).next}) h0]
   exact LK
end Go.Proofs.YtbploohjimpcaaaGreat.A
