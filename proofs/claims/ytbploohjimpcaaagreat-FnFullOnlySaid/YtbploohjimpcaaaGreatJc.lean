/- What the program's functions answer (Jc): no condition. -/
import Derived.Test.YtbploohjimpcaaaGreatGl
set_option linter.unusedVariables false
set_option linter.unusedSimpArgs false
namespace Go.Proofs.YtbploohjimpcaaaGreat.A
open Go Go.Abs
set_option maxRecDepth 100000
set_option maxHeartbeats 16000000
theorem X6h {n:Nat} {s:Sta} {p:Nat} (hs:staB s=true) (hr:s.room) (hi:s.i64) (hp:p<s.ths.length) (h:(s.th p).pc=14) (hp0:(s.th p).prev=0):IK (n+28) s p 247 306 []:=by
 unfold IK;rw [Xa]
 obtain ⟨H,_,T,T6,_,hcf,_,_,_,_,_,_,_,hpc0,_,r1,hL,_,_,w0,w1,w2,w3,_,hcl,hro,_,_,_,_,_,x8⟩:=pre hs hr hi hp h (by decide)
 rw [stv,st14 h]
 have st1:=r1
 unfold sk14
 have hn6:I64 (s.th p).next:=T6.2.2.2.1
 have hwk:=Vq T hpc0
 have hk4:0≤wKey (s.th p)∧wKey (s.th p)<4:=by omega
 have hww:(s.th p).work.length≤1048576:=hro.2.2.2.1
 have hhd:=Wo H hwk
 have sa:=hhd
 by_cases he:cl s (X2 s.c (wKey (s.th p)))=(s.th p).curr
 ·by_cases hch:cl s (X2 s.c (wKey (s.th p)))=unmk (s.th p).next
  ·by_cases h0:unmk (s.th p).next=0
   ·by_cases hk2:(s.th p).op.k=2
    ·rw [Zp hp0,Zq hp0,if_pos (Yl sa he),Xs sa hch,Q9 (t:={s.th p with curr:=unmk (s.th p).next}) h0 hk2]
     exact LJ
    ·rcases Yv (s.th p).work with hw | ⟨e,w,hw⟩
     ·have hwn:=lenN hw
      rw [Zp hp0,Zq hp0,if_pos (Yl sa he),Xs sa hch,Xaa (t:={s.th p with curr:=unmk (s.th p).next}) h0 hk2 hw]
      exact LJn
     ·have hwn:=lenC hw
      have hwl:=hro.2.2.2.1
      rw [hw,List.length_cons] at hwl
      have r5:((s.th p).work.map entA)[0]?=some (entA e):=by rw [hw];rfl
      have hwT:List.take ((((((s.th p).work.map entA)).length:Int)).toNat - Int.toNat 1) (List.drop (Int.toNat 1) ((s.th p).work.map entA))=w.map entA:=by rw [hw];simp only [List.map_cons,List.length_cons];exact List.take_of_length_le (by simp)
      have hwz:(if ((w.map entA).length:Int)>0 then (60:Int) else 62)=if w.length=0 then 62 else 60:=by rw [List.length_map];split <;> split <;> first | rfl | omega
      rw [Zp hp0,Zq hp0,if_pos (Yl sa he),Xs sa hch,Vw (t:={s.th p with curr:=unmk (s.th p).next}) h0 hk2 hw]
      exact LJg
   ·rw [Zp hp0,Zq hp0,if_pos (Yl sa he),Xs sa hch,V9 (t:={s.th p with curr:=unmk (s.th p).next}) h0]
    exact LJ
  ·by_cases h0:unmk (s.th p).next=0
   ·by_cases hk2:(s.th p).op.k=2
    ·rw [Zp hp0,Zq hp0,if_pos (Yl sa he),Xo sa hch,Q9 (t:={s.th p with curr:=unmk (s.th p).next}) h0 hk2]
     exact LJ
    ·rcases Yv (s.th p).work with hw | ⟨e,w,hw⟩
     ·have hwn:=lenN hw
      rw [Zp hp0,Zq hp0,if_pos (Yl sa he),Xo sa hch,Xaa (t:={s.th p with curr:=unmk (s.th p).next}) h0 hk2 hw]
      exact LJn
     ·have hwn:=lenC hw
      have hwl:=hro.2.2.2.1
      rw [hw,List.length_cons] at hwl
      have r5:((s.th p).work.map entA)[0]?=some (entA e):=by rw [hw];rfl
      have hwT:List.take ((((((s.th p).work.map entA)).length:Int)).toNat - Int.toNat 1) (List.drop (Int.toNat 1) ((s.th p).work.map entA))=w.map entA:=by rw [hw];simp only [List.map_cons,List.length_cons];exact List.take_of_length_le (by simp)
      have hwz:(if ((w.map entA).length:Int)>0 then (60:Int) else 62)=if w.length=0 then 62 else 60:=by rw [List.length_map];split <;> split <;> first | rfl | omega
      rw [Zp hp0,Zq hp0,if_pos (Yl sa he),Xo sa hch,Vw (t:={s.th p with curr:=unmk (s.th p).next}) h0 hk2 hw]
      exact LJg
   ·rw [Zp hp0,Zq hp0,if_pos (Yl sa he),Xo sa hch,V9 (t:={s.th p with curr:=unmk (s.th p).next}) h0]
    exact LJ
 ·rw [Zp hp0,Zq hp0,if_neg (Xdk he),Qq]
  exact LJ
end Go.Proofs.YtbploohjimpcaaaGreat.A
