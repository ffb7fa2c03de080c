/- What the program's functions answer (Ke): no condition. -/
import Derived.Test.YtbploohjimpcaaaGreatGl
set_option linter.unusedVariables false
set_option linter.unusedSimpArgs false
namespace Go.Proofs.YtbploohjimpcaaaGreat.A
open Go Go.Abs
set_option maxRecDepth 100000
set_option maxHeartbeats 16000000
theorem X5f {n:Nat} {s:Sta} {p:Nat} (hs:staB s=true) (hr:s.room) (hi:s.i64) (hp:p<s.ths.length) (h:(s.th p).pc=14) (hp0:(s.th p).prev=0) (hk2:¬(s.th p).op.k=2) (hw:(s.th p).work=[]) (he:cl s (X2 s.c (s.th p).op.key)=(s.th p).curr) (hch:¬cl s (X2 s.c (s.th p).op.key)=unmk (s.th p).next):RK (n+15) s p:=by
 unfold RK;rw [Xa]
 obtain ⟨H,_,T,T6,_,hcf,_,_,_,_,_,_,_,hpc0,_,r1,hL,_,_,w0,w1,w2,w3,_,hcl,hro,_,_,_,_,_,x8⟩:=pre hs hr hi hp h (by decide)
 rw [stv,st14 h]
 have st1:=r1
 unfold sk14
 have hn6:I64 (s.th p).next:=T6.2.2.2.1
 have hwn:=lenN hw
 have hww:(s.th p).work.length≤1048576:=hro.2.2.2.1
 have hwk:=Vq T hpc0
 rw [wK_n hk2 hw] at hwk
 have hk4:0≤(s.th p).op.key∧(s.th p).op.key<4:=by omega
 have hhd:=Wo H hwk
 have sa:=hhd
 by_cases h0:unmk (s.th p).next=0
 ·rw [Zp hp0,Zq hp0,wK_n hk2 hw,if_pos (Yl sa he),Xo sa hch,Xaa (t:={s.th p with curr:=unmk (s.th p).next}) h0 hk2 hw]
  exact LK
 ·rw [Zp hp0,Zq hp0,wK_n hk2 hw,if_pos (Yl sa he),Xo sa hch,V9 (t:={s.th p with curr:=unmk (s.th p).next}) h0]
  exact LK
theorem X5g {n:Nat} {s:Sta} {p:Nat} (hs:staB s=true) (hr:s.room) (hi:s.i64) (hp:p<s.ths.length) (h:(s.th p).pc=14) (hp0:(s.th p).prev=0) {e:Ent} {w:List Ent} (hk2:¬(s.th p).op.k=2) (hw:(s.th p).work=e::w) (he:cl s (X2 s.c e.key)=(s.th p).curr) (hch:cl s (X2 s.c e.key)=unmk (s.th p).next):RK (n+15) s p:=by
 unfold RK;rw [Xa]
 obtain ⟨H,_,T,T6,_,hcf,_,_,_,_,_,_,_,hpc0,_,r1,hL,_,_,w0,w1,w2,w3,_,hcl,hro,_,_,_,_,_,x8⟩:=pre hs hr hi hp h (by decide)
 rw [stv,st14 h]
 have st1:=r1
 unfold sk14
 have hn6:I64 (s.th p).next:=T6.2.2.2.1
 have hwn:=lenC hw
 have hww:(s.th p).work.length≤1048576:=hro.2.2.2.1
 have hwk:=Vq T hpc0
 have hwl:=hro.2.2.2.1
 have hll:=hro.2.2.2.2
 rw [hw,List.length_cons] at hwl
 have r5:((s.th p).work.map entA)[0]?=some (entA e):=by rw [hw];rfl
 rw [wK_e hk2 hw] at hwk
 have hk4:0≤e.key∧e.key<4:=by omega
 have hhd:=Wo H hwk
 have sa:=hhd
 by_cases h0:unmk (s.th p).next=0
 ·by_cases hw0:w.length=0
  ·have hwT:List.take ((((((s.th p).work.map entA)).length:Int)).toNat - Int.toNat 1) (List.drop (Int.toNat 1) ((s.th p).work.map entA))=w.map entA:=by rw [hw];simp only [List.map_cons,List.length_cons];exact List.take_of_length_le (by simp)
   have go9:decide (((List.take ((((((s.th p).work.map entA)).length:Int)).toNat - Int.toNat 1) (List.drop (Int.toNat 1) ((s.th p).work.map entA))).length:Int)>0)=false:=decide_eq_false (by rw [hwT,List.length_map];omega)
   have hwy:(if w.length=0 then (62:Int) else 60)=62:=if_pos hw0
   have x7:=fun {x y:R}=>Uk (x:=x) (y:=y) go9
   rw [Zp hp0,Zq hp0,wK_e hk2 hw,if_pos (Yl sa he),Xs sa hch,Vw (t:={s.th p with curr:=unmk (s.th p).next}) h0 hk2 hw]
   exact LKg
  ·have hwT:List.take ((((((s.th p).work.map entA)).length:Int)).toNat - Int.toNat 1) (List.drop (Int.toNat 1) ((s.th p).work.map entA))=w.map entA:=by rw [hw];simp only [List.map_cons,List.length_cons];exact List.take_of_length_le (by simp)
   have go9:decide (((List.take ((((((s.th p).work.map entA)).length:Int)).toNat - Int.toNat 1) (List.drop (Int.toNat 1) ((s.th p).work.map entA))).length:Int)>0)=true:=decide_eq_true (by rw [hwT,List.length_map];omega)
   have hwy:(if w.length=0 then (62:Int) else 60)=60:=if_neg hw0
   have x7:=fun {x y:R}=>Xn (x:=x) (y:=y) go9
   rw [Zp hp0,Zq hp0,wK_e hk2 hw,if_pos (Yl sa he),Xs sa hch,Vw (t:={s.th p with curr:=unmk (s.th p).next}) h0 hk2 hw]
   exact LKg
 ·rw [Zp hp0,Zq hp0,wK_e hk2 hw,if_pos (Yl sa he),Xs sa hch,V9 (t:={s.th p with curr:=unmk (s.th p).next}) h0]
  exact LK
theorem X5h {n:Nat} {s:Sta} {p:Nat} (hs:staB s=true) (hr:s.room) (hi:s.i64) (hp:p<s.ths.length) (h:(s.th p).pc=14) (hp0:(s.th p).prev=0) {e:Ent} {w:List Ent} (hk2:¬(s.th p).op.k=2) (hw:(s.th p).work=e::w) (he:cl s (X2 s.c e.key)=(s.th p).curr) (hch:¬cl s (X2 s.c e.key)=unmk (s.th p).next):RK (n+15) s p:=by
 unfold RK;rw [Xa]
 obtain ⟨H,_,T,T6,_,hcf,_,_,_,_,_,_,_,hpc0,_,r1,hL,_,_,w0,w1,w2,w3,_,hcl,hro,_,_,_,_,_,x8⟩:=pre hs hr hi hp h (by decide)
 rw [stv,st14 h]
 have st1:=r1
 unfold sk14
 have hn6:I64 (s.th p).next:=T6.2.2.2.1
 have hwn:=lenC hw
 have hww:(s.th p).work.length≤1048576:=hro.2.2.2.1
 have hwk:=Vq T hpc0
 have hwl:=hro.2.2.2.1
 have hll:=hro.2.2.2.2
 rw [hw,List.length_cons] at hwl
 have r5:((s.th p).work.map entA)[0]?=some (entA e):=by rw [hw];rfl
 rw [wK_e hk2 hw] at hwk
 have hk4:0≤e.key∧e.key<4:=by omega
 have hhd:=Wo H hwk
 have sa:=hhd
 by_cases h0:unmk (s.th p).next=0
 ·by_cases hw0:w.length=0
  ·have hwT:List.take ((((((s.th p).work.map entA)).length:Int)).toNat - Int.toNat 1) (List.drop (Int.toNat 1) ((s.th p).work.map entA))=w.map entA:=by rw [hw];simp only [List.map_cons,List.length_cons];exact List.take_of_length_le (by simp)
   have go9:decide (((List.take ((((((s.th p).work.map entA)).length:Int)).toNat - Int.toNat 1) (List.drop (Int.toNat 1) ((s.th p).work.map entA))).length:Int)>0)=false:=decide_eq_false (by rw [hwT,List.length_map];omega)
   have hwy:(if w.length=0 then (62:Int) else 60)=62:=if_pos hw0
   have x7:=fun {x y:R}=>Uk (x:=x) (y:=y) go9
   rw [Zp hp0,Zq hp0,wK_e hk2 hw,if_pos (Yl sa he),Xo sa hch,Vw (t:={s.th p with curr:=unmk (s.th p).next}) h0 hk2 hw]
   exact LKg
  ·have hwT:List.take ((((((s.th p).work.map entA)).length:Int)).toNat - Int.toNat 1) (List.drop (Int.toNat 1) ((s.th p).work.map entA))=w.map entA:=by rw [hw];simp only [List.map_cons,List.length_cons];exact List.take_of_length_le (by simp)
   have go9:decide (((List.take ((((((s.th p).work.map entA)).length:Int)).toNat - Int.toNat 1) (List.drop (Int.toNat 1) ((s.th p).work.map entA))).length:Int)>0)=true:=decide_eq_true (by rw [hwT,List.length_map];omega)
   have hwy:(if w.length=0 then (62:Int) else 60)=60:=if_neg hw0
   have x7:=fun {x y:R}=>Xn (x:=x) (y:=y) go9
   rw [Zp hp0,Zq hp0,wK_e hk2 hw,if_pos (Yl sa he),Xo sa hch,Vw (t:={s.th p with curr:=unmk (s.th p).next}) h0 hk2 hw]
   exact LKg
 ·rw [Zp hp0,Zq hp0,wK_e hk2 hw,if_pos (Yl sa he),Xo sa hch,V9 (t:={s.th p with curr:=unmk (s.th p).next}) h0]
  exact LK
end Go.Proofs.YtbploohjimpcaaaGreat.A
