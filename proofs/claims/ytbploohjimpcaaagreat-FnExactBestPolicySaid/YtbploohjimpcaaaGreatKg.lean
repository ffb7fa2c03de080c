/- What the program's functions answer (Kg): no condition. -/
import Derived.Test.YtbploohjimpcaaaGreatKd
import Derived.Test.YtbploohjimpcaaaGreatKe
import Derived.Test.YtbploohjimpcaaaGreatKf
import Derived.Test.YtbploohjimpcaaaGreatGl
set_option linter.unusedVariables false
set_option linter.unusedSimpArgs false
namespace Go.Proofs.YtbploohjimpcaaaGreat.A
open Go Go.Abs
set_option maxRecDepth 100000
set_option maxHeartbeats 16000000
theorem R_14 {n:Nat} {s:Sta} {p:Nat} (hs:staB s=true) (hr:s.room) (hi:s.i64) (hp:p<s.ths.length) (h:(s.th p).pc=14):RK (n+15) s p:=by
 by_cases hp0:(s.th p).prev=0
 ·by_cases hk2:(s.th p).op.k=2
  ·by_cases he:cl s (headB s.c (s.th p).op.key)=(s.th p).curr
   ·by_cases hch:cl s (headB s.c (s.th p).op.key)=unmk (s.th p).next
    ·exact Rsr_14 hs hr hi hp h hp0 hk2 he hch
    ·exact Rdr_14 hs hr hi hp h hp0 hk2 he hch
   ·exact Rnr_14 hs hr hi hp h hp0 hk2 he
  ·rcases list_cases (s.th p).work with hw | ⟨e,w,hw⟩
   ·by_cases he:cl s (headB s.c (s.th p).op.key)=(s.th p).curr
    ·by_cases hch:cl s (headB s.c (s.th p).op.key)=unmk (s.th p).next
     ·exact Rsn_14 hs hr hi hp h hp0 hk2 hw he hch
     ·exact Rdn_14 hs hr hi hp h hp0 hk2 hw he hch
    ·exact Rnn_14 hs hr hi hp h hp0 hk2 hw he
   ·by_cases he:cl s (headB s.c e.key)=(s.th p).curr
    ·by_cases hch:cl s (headB s.c e.key)=unmk (s.th p).next
     ·exact Rse_14 hs hr hi hp h hp0 hk2 hw he hch
     ·exact Rde_14 hs hr hi hp h hp0 hk2 hw he hch
    ·exact Rne_14 hs hr hi hp h hp0 hk2 hw he
 ·by_cases hc:curB s (unmk (s.th p).prev)=true
  ·by_cases he:cl s ((ncB s.c (idxB (unmk (s.th p).prev)) 2))=(s.th p).curr
   ·by_cases hch:cl s ((ncB s.c (idxB (unmk (s.th p).prev)) 2))=unmk (s.th p).next
    ·exact Rsc_14 hs hr hi hp h hp0 hc he hch
    ·exact Rdc_14 hs hr hi hp h hp0 hc he hch
   ·exact Rnc_14 hs hr hi hp h hp0 hc he
  ·exact Rmc_14 hs hr hi hp h hp0 hc
theorem R_15 {n:Nat} {s:Sta} {p:Nat} (hs:staB s=true) (hr:s.room) (hi:s.i64) (hp:p<s.ths.length) (h:(s.th p).pc=15):RK (n+15) s p:=by
 unfold RK;rw [callP_succ]
 obtain ⟨H,_,_,T6,_,hcf,_,_,_,_,_,_,_,_,_,r1,hL,_,_,w0,w1,w2,w3,hpi,hcl,hro,_,_,_,_,_,x8⟩:=pre hs hr hi hp h (by decide)
 rw [stv,st15 h]
 have st1:=r1
 unfold sk15
 have hn6:I64 (s.th p).next:=T6.2.2.2.1
 have hj:(0:Int)≤1∧(1:Int)≤1:=by omega
 by_cases hch:cl s (hazB s.c (p:Int) 1)=(s.th p).curr
 ·by_cases h0:unmk (s.th p).next=0
  ·by_cases hk2:(s.th p).op.k=2
   ·have sa:=haz_in H hpi hj
    rw [put_same (haz_in H hpi hj) hch,goOn_2 (t:={s.th p with prev:=(s.th p).curr,curr:=unmk (s.th p).next}) h0 hk2]
    exact LK
   ·rcases list_cases (s.th p).work with hw | ⟨e,w,hw⟩
    ·have hwn:=lenN hw
     have sa:=haz_in H hpi hj
     rw [put_same (haz_in H hpi hj) hch,goOn_3 (t:={s.th p with prev:=(s.th p).curr,curr:=unmk (s.th p).next}) h0 hk2 hw]
     exact LK
    ·have hwn:=lenC hw
     by_cases hw0:w.length=0
     ·have sa:=haz_in H hpi hj
      have hwl:=hro.2.2.2.1
      rw [hw,List.length_cons] at hwl
      have r5:((s.th p).work.map entA)[0]?=some (entA e):=by rw [hw];rfl
      have hwT:List.take ((((((s.th p).work.map entA)).length:Int)).toNat - Int.toNat 1) (List.drop (Int.toNat 1) ((s.th p).work.map entA))=w.map entA:=by rw [hw];simp only [List.map_cons,List.length_cons];exact List.take_of_length_le (by simp)
      have go9:decide (((List.take ((((((s.th p).work.map entA)).length:Int)).toNat - Int.toNat 1) (List.drop (Int.toNat 1) ((s.th p).work.map entA))).length:Int)>0)=false:=decide_eq_false (by rw [hwT,List.length_map];omega)
      have hwy:(if w.length=0 then (62:Int) else 60)=62:=if_pos hw0
      have x7:=fun {x y:R}=>br_neg (x:=x) (y:=y) go9
      rw [put_same (haz_in H hpi hj) hch,goOn_4 (t:={s.th p with prev:=(s.th p).curr,curr:=unmk (s.th p).next}) h0 hk2 hw]
      exact LKg
     ·have sa:=haz_in H hpi hj
      have hwl:=hro.2.2.2.1
      rw [hw,List.length_cons] at hwl
      have r5:((s.th p).work.map entA)[0]?=some (entA e):=by rw [hw];rfl
      have hwT:List.take ((((((s.th p).work.map entA)).length:Int)).toNat - Int.toNat 1) (List.drop (Int.toNat 1) ((s.th p).work.map entA))=w.map entA:=by rw [hw];simp only [List.map_cons,List.length_cons];exact List.take_of_length_le (by simp)
      have go9:decide (((List.take ((((((s.th p).work.map entA)).length:Int)).toNat - Int.toNat 1) (List.drop (Int.toNat 1) ((s.th p).work.map entA))).length:Int)>0)=true:=decide_eq_true (by rw [hwT,List.length_map];omega)
      have hwy:(if w.length=0 then (62:Int) else 60)=60:=if_neg hw0
      have x7:=fun {x y:R}=>br_pos (x:=x) (y:=y) go9
      rw [put_same (haz_in H hpi hj) hch,goOn_4 (t:={s.th p with prev:=(s.th p).curr,curr:=unmk (s.th p).next}) h0 hk2 hw]
      exact LKg
  ·have sa:=haz_in H hpi hj
   rw [put_same (haz_in H hpi hj) hch,goOn_1 (t:={s.th p with prev:=(s.th p).curr,curr:=unmk (s.th p).next}) h0]
   exact LK
 ·by_cases h0:unmk (s.th p).next=0
  ·by_cases hk2:(s.th p).op.k=2
   ·have sa:=haz_in H hpi hj
    rw [put_diff (haz_in H hpi hj) hch,goOn_2 (t:={s.th p with prev:=(s.th p).curr,curr:=unmk (s.th p).next}) h0 hk2]
    exact LK
   ·rcases list_cases (s.th p).work with hw | ⟨e,w,hw⟩
    ·have hwn:=lenN hw
     have sa:=haz_in H hpi hj
     rw [put_diff (haz_in H hpi hj) hch,goOn_3 (t:={s.th p with prev:=(s.th p).curr,curr:=unmk (s.th p).next}) h0 hk2 hw]
     exact LK
    ·have hwn:=lenC hw
     by_cases hw0:w.length=0
     ·have sa:=haz_in H hpi hj
      have hwl:=hro.2.2.2.1
      rw [hw,List.length_cons] at hwl
      have r5:((s.th p).work.map entA)[0]?=some (entA e):=by rw [hw];rfl
      have hwT:List.take ((((((s.th p).work.map entA)).length:Int)).toNat - Int.toNat 1) (List.drop (Int.toNat 1) ((s.th p).work.map entA))=w.map entA:=by rw [hw];simp only [List.map_cons,List.length_cons];exact List.take_of_length_le (by simp)
      have go9:decide (((List.take ((((((s.th p).work.map entA)).length:Int)).toNat - Int.toNat 1) (List.drop (Int.toNat 1) ((s.th p).work.map entA))).length:Int)>0)=false:=decide_eq_false (by rw [hwT,List.length_map];omega)
      have hwy:(if w.length=0 then (62:Int) else 60)=62:=if_pos hw0
      have x7:=fun {x y:R}=>br_neg (x:=x) (y:=y) go9
      rw [put_diff (haz_in H hpi hj) hch,goOn_4 (t:={s.th p with prev:=(s.th p).curr,curr:=unmk (s.th p).next}) h0 hk2 hw]
      exact LKg
     ·have sa:=haz_in H hpi hj
      have hwl:=hro.2.2.2.1
      rw [hw,List.length_cons] at hwl
      have r5:((s.th p).work.map entA)[0]?=some (entA e):=by rw [hw];rfl
      have hwT:List.take ((((((s.th p).work.map entA)).length:Int)).toNat - Int.toNat 1) (List.drop (Int.toNat 1) ((s.th p).work.map entA))=w.map entA:=by rw [hw];simp only [List.map_cons,List.length_cons];exact List.take_of_length_le (by simp)
      have go9:decide (((List.take ((((((s.th p).work.map entA)).length:Int)).toNat - Int.toNat 1) (List.drop (Int.toNat 1) ((s.th p).work.map entA))).length:Int)>0)=true:=decide_eq_true (by rw [hwT,List.length_map];omega)
      have hwy:(if w.length=0 then (62:Int) else 60)=60:=if_neg hw0
      have x7:=fun {x y:R}=>br_pos (x:=x) (y:=y) go9
      rw [put_diff (haz_in H hpi hj) hch,goOn_4 (t:={s.th p with prev:=(s.th p).curr,curr:=unmk (s.th p).next}) h0 hk2 hw]
      exact LKg
  ·have sa:=haz_in H hpi hj
   rw [put_diff (haz_in H hpi hj) hch,goOn_1 (t:={s.th p with prev:=(s.th p).curr,curr:=unmk (s.th p).next}) h0]
   exact LK
end Go.Proofs.YtbploohjimpcaaaGreat.A
