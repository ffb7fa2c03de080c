/- What the program's functions answer (Kb): no condition. -/
import Derived.Test.YtbploohjimpcaaaGreatGl
set_option linter.unusedVariables false
set_option linter.unusedSimpArgs false
namespace Go.Proofs.YtbploohjimpcaaaGreat.A
open Go Go.Abs
set_option maxRecDepth 100000
set_option maxHeartbeats 16000000
theorem R_10 {n:Nat} {s:Sta} {p:Nat} (hs:staB s=true) (hr:s.room) (hi:s.i64) (hp:p<s.ths.length) (h:(s.th p).pc=10):RK (n+15) s p:=by
 unfold RK;rw [Xa]
 obtain ⟨H,_,T,T6,_,hcf,_,_,_,_,_,_,_,hpc0,_,r1,hL,_,_,w0,w1,w2,w3,_,hcl,hro,_,_,_,_,_,x8⟩:=pre hs hr hi hp h (by decide)
 rw [stv,st10 h]
 have st1:=r1
 unfold sk10
 have hww:(s.th p).work.length≤1048576:=hro.2.2.2.1
 have hwk:=Vq T hpc0
 by_cases hk2:(s.th p).op.k=2
 ·rw [wK_r hk2] at hwk
  have hk4:0≤(s.th p).op.key∧(s.th p).op.key<4:=by omega
  have hhd:=Wo H hwk
  have sa:=hhd
  have hu6:I64 (cl s (X2 s.c (s.th p).op.key)):=H.cl6 (i:=X2 s.c (s.th p).op.key)
  by_cases h0:unmk (cl s (X2 s.c (s.th p).op.key))=0
  ·rw [wK_r hk2,Zl hhd,Q9 (t:={s.th p with prev:=0,curr:=unmk (cl s (X2 s.c (s.th p).op.key))}) h0 hk2]
   exact LK
  ·rw [wK_r hk2,Zl hhd,V9 (t:={s.th p with prev:=0,curr:=unmk (cl s (X2 s.c (s.th p).op.key))}) h0]
   exact LK
 ·rcases Yv (s.th p).work with hw | ⟨e,w,hw⟩
  ·have hwn:=lenN hw
   rw [wK_n hk2 hw] at hwk
   have hk4:0≤(s.th p).op.key∧(s.th p).op.key<4:=by omega
   have hhd:=Wo H hwk
   have sa:=hhd
   have hu6:I64 (cl s (X2 s.c (s.th p).op.key)):=H.cl6 (i:=X2 s.c (s.th p).op.key)
   by_cases h0:unmk (cl s (X2 s.c (s.th p).op.key))=0
   ·rw [wK_n hk2 hw,Zl hhd,Xaa (t:={s.th p with prev:=0,curr:=unmk (cl s (X2 s.c (s.th p).op.key))}) h0 hk2 hw]
    exact LK
   ·rw [wK_n hk2 hw,Zl hhd,V9 (t:={s.th p with prev:=0,curr:=unmk (cl s (X2 s.c (s.th p).op.key))}) h0]
    exact LK
  ·have hwn:=lenC hw
   have hwl:=hro.2.2.2.1
   have hll:=hro.2.2.2.2
   rw [hw,List.length_cons] at hwl
   have r5:((s.th p).work.map entA)[0]?=some (entA e):=by rw [hw];rfl
   rw [wK_e hk2 hw] at hwk
   have hk4:0≤e.key∧e.key<4:=by omega
   have hhd:=Wo H hwk
   have sa:=hhd
   have hu6:I64 (cl s (X2 s.c e.key)):=H.cl6 (i:=X2 s.c e.key)
   by_cases h0:unmk (cl s (X2 s.c e.key))=0
   ·by_cases hw0:w.length=0
    ·have hwT:List.take ((((((s.th p).work.map entA)).length:Int)).toNat - Int.toNat 1) (List.drop (Int.toNat 1) ((s.th p).work.map entA))=w.map entA:=by rw [hw];simp only [List.map_cons,List.length_cons];exact List.take_of_length_le (by simp)
     have go9:decide (((List.take ((((((s.th p).work.map entA)).length:Int)).toNat - Int.toNat 1) (List.drop (Int.toNat 1) ((s.th p).work.map entA))).length:Int)>0)=false:=decide_eq_false (by rw [hwT,List.length_map];omega)
     have hwy:(if w.length=0 then (62:Int) else 60)=62:=if_pos hw0
     have x7:=fun {x y:R}=>Uk (x:=x) (y:=y) go9
     rw [wK_e hk2 hw,Zl hhd,Vw (t:={s.th p with prev:=0,curr:=unmk (cl s (X2 s.c e.key))}) h0 hk2 hw]
     exact LKg
    ·have hwT:List.take ((((((s.th p).work.map entA)).length:Int)).toNat - Int.toNat 1) (List.drop (Int.toNat 1) ((s.th p).work.map entA))=w.map entA:=by rw [hw];simp only [List.map_cons,List.length_cons];exact List.take_of_length_le (by simp)
     have go9:decide (((List.take ((((((s.th p).work.map entA)).length:Int)).toNat - Int.toNat 1) (List.drop (Int.toNat 1) ((s.th p).work.map entA))).length:Int)>0)=true:=decide_eq_true (by rw [hwT,List.length_map];omega)
     have hwy:(if w.length=0 then (62:Int) else 60)=60:=if_neg hw0
     have x7:=fun {x y:R}=>Xn (x:=x) (y:=y) go9
     rw [wK_e hk2 hw,Zl hhd,Vw (t:={s.th p with prev:=0,curr:=unmk (cl s (X2 s.c e.key))}) h0 hk2 hw]
     exact LKg
   ·rw [wK_e hk2 hw,Zl hhd,V9 (t:={s.th p with prev:=0,curr:=unmk (cl s (X2 s.c e.key))}) h0]
    exact LK
theorem R_17 {n:Nat} {s:Sta} {p:Nat} (hs:staB s=true) (hr:s.room) (hi:s.i64) (hp:p<s.ths.length) (h:(s.th p).pc=17):RK (n+15) s p:=by
 unfold RK;rw [Xa]
 obtain ⟨H,_,_,T6,_,hcf,_,_,_,_,_,_,_,_,_,r1,hL,_,_,w0,w1,w2,w3,_,hcl,_,_,_,_,_,_,x8⟩:=pre hs hr hi hp h (by decide)
 rw [stv,st17 h]
 have st1:=r1
 unfold sk17
 have sa:0≤(0:Int)∧(0:Int)<(s.cells.length:Int):=⟨by omega,by omega⟩
 exact LK
end Go.Proofs.YtbploohjimpcaaaGreat.A
