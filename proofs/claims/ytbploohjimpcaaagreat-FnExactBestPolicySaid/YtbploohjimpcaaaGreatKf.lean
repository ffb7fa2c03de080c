/- What the program's functions answer (Kf): no condition. -/
import Derived.Test.YtbploohjimpcaaaGreatGl
set_option linter.unusedVariables false
set_option linter.unusedSimpArgs false
namespace Go.Proofs.YtbploohjimpcaaaGreat.A
open Go Go.Abs
set_option maxRecDepth 100000
set_option maxHeartbeats 16000000
theorem Rsc_14 {n:Nat} {s:Sta} {p:Nat} (hs:staB s=true) (hr:s.room) (hi:s.i64) (hp:p<s.ths.length) (h:(s.th p).pc=14) (hp0:¬(s.th p).prev=0) (hc:curB s (unmk (s.th p).prev)=true) (he:cl s ((ncB s.c (idxB (unmk (s.th p).prev)) 2))=(s.th p).curr) (hch:cl s ((ncB s.c (idxB (unmk (s.th p).prev)) 2))=unmk (s.th p).next):RK (n+15) s p:=by
 unfold RK;rw [callP_succ]
 obtain ⟨H,_,_,T6,_,hcf,_,_,_,_,_,_,_,_,_,r1,hL,_,_,w0,w1,w2,w3,_,hcl,hro,_,_,_,_,_,x8⟩:=pre hs hr hi hp h (by decide)
 rw [stv,st14 h]
 have st1:=r1
 unfold sk14
 have hn6:I64 (s.th p).next:=T6.2.2.2.1
 have hu6:I64 (s.th p).prev:=T6.2.1
 have hv6:=unmk_i64 hu6
 have hf:(0:Int)≤2∧(2:Int)≤2:=by omega
 have hx4:=nd_24 H hc
 have hnd:=nd_in H hc hf
 have hxi:=idx_in (cur_nd hc)
 have q1:=cur_isH hc
 have qg:=cur_gen hc
 have sa:=hnd
 by_cases h0:unmk (s.th p).next=0
 ·by_cases hk2:(s.th p).op.k=2
  ·rw [lnkA_1 hp0,lnkF_1 hp0,flt_ok hc,fldA_ok hc,if_pos (swB_yes sa he),put_same sa hch,goOn_2 (t:={s.th p with curr:=unmk (s.th p).next}) h0 hk2]
   exact LK
  ·rcases list_cases (s.th p).work with hw | ⟨e,w,hw⟩
   ·have hwn:=lenN hw
    rw [lnkA_1 hp0,lnkF_1 hp0,flt_ok hc,fldA_ok hc,if_pos (swB_yes sa he),put_same sa hch,goOn_3 (t:={s.th p with curr:=unmk (s.th p).next}) h0 hk2 hw]
    exact LK
   ·have hwn:=lenC hw
    by_cases hw0:w.length=0
    ·have hwl:=hro.2.2.2.1
     rw [hw,List.length_cons] at hwl
     have r5:((s.th p).work.map entA)[0]?=some (entA e):=by rw [hw];rfl
     have hwT:List.take ((((((s.th p).work.map entA)).length:Int)).toNat - Int.toNat 1) (List.drop (Int.toNat 1) ((s.th p).work.map entA))=w.map entA:=by rw [hw];simp only [List.map_cons,List.length_cons];exact List.take_of_length_le (by simp)
     have go9:decide (((List.take ((((((s.th p).work.map entA)).length:Int)).toNat - Int.toNat 1) (List.drop (Int.toNat 1) ((s.th p).work.map entA))).length:Int)>0)=false:=decide_eq_false (by rw [hwT,List.length_map];omega)
     have hwy:(if w.length=0 then (62:Int) else 60)=62:=if_pos hw0
     have x7:=fun {x y:R}=>br_neg (x:=x) (y:=y) go9
     rw [lnkA_1 hp0,lnkF_1 hp0,flt_ok hc,fldA_ok hc,if_pos (swB_yes sa he),put_same sa hch,goOn_4 (t:={s.th p with curr:=unmk (s.th p).next}) h0 hk2 hw]
     exact LKg
    ·have hwl:=hro.2.2.2.1
     rw [hw,List.length_cons] at hwl
     have r5:((s.th p).work.map entA)[0]?=some (entA e):=by rw [hw];rfl
     have hwT:List.take ((((((s.th p).work.map entA)).length:Int)).toNat - Int.toNat 1) (List.drop (Int.toNat 1) ((s.th p).work.map entA))=w.map entA:=by rw [hw];simp only [List.map_cons,List.length_cons];exact List.take_of_length_le (by simp)
     have go9:decide (((List.take ((((((s.th p).work.map entA)).length:Int)).toNat - Int.toNat 1) (List.drop (Int.toNat 1) ((s.th p).work.map entA))).length:Int)>0)=true:=decide_eq_true (by rw [hwT,List.length_map];omega)
     have hwy:(if w.length=0 then (62:Int) else 60)=60:=if_neg hw0
     have x7:=fun {x y:R}=>br_pos (x:=x) (y:=y) go9
     rw [lnkA_1 hp0,lnkF_1 hp0,flt_ok hc,fldA_ok hc,if_pos (swB_yes sa he),put_same sa hch,goOn_4 (t:={s.th p with curr:=unmk (s.th p).next}) h0 hk2 hw]
     exact LKg
 ·rw [lnkA_1 hp0,lnkF_1 hp0,flt_ok hc,fldA_ok hc,if_pos (swB_yes sa he),put_same sa hch,goOn_1 (t:={s.th p with curr:=unmk (s.th p).next}) h0]
  exact LK
theorem Rdc_14 {n:Nat} {s:Sta} {p:Nat} (hs:staB s=true) (hr:s.room) (hi:s.i64) (hp:p<s.ths.length) (h:(s.th p).pc=14) (hp0:¬(s.th p).prev=0) (hc:curB s (unmk (s.th p).prev)=true) (he:cl s ((ncB s.c (idxB (unmk (s.th p).prev)) 2))=(s.th p).curr) (hch:¬cl s ((ncB s.c (idxB (unmk (s.th p).prev)) 2))=unmk (s.th p).next):RK (n+15) s p:=by
 unfold RK;rw [callP_succ]
 obtain ⟨H,_,_,T6,_,hcf,_,_,_,_,_,_,_,_,_,r1,hL,_,_,w0,w1,w2,w3,_,hcl,hro,_,_,_,_,_,x8⟩:=pre hs hr hi hp h (by decide)
 rw [stv,st14 h]
 have st1:=r1
 unfold sk14
 have hn6:I64 (s.th p).next:=T6.2.2.2.1
 have hu6:I64 (s.th p).prev:=T6.2.1
 have hv6:=unmk_i64 hu6
 have hf:(0:Int)≤2∧(2:Int)≤2:=by omega
 have hx4:=nd_24 H hc
 have hnd:=nd_in H hc hf
 have hxi:=idx_in (cur_nd hc)
 have q1:=cur_isH hc
 have qg:=cur_gen hc
 have sa:=hnd
 by_cases h0:unmk (s.th p).next=0
 ·by_cases hk2:(s.th p).op.k=2
  ·rw [lnkA_1 hp0,lnkF_1 hp0,flt_ok hc,fldA_ok hc,if_pos (swB_yes sa he),put_diff sa hch,goOn_2 (t:={s.th p with curr:=unmk (s.th p).next}) h0 hk2]
   exact LK
  ·rcases list_cases (s.th p).work with hw | ⟨e,w,hw⟩
   ·have hwn:=lenN hw
    rw [lnkA_1 hp0,lnkF_1 hp0,flt_ok hc,fldA_ok hc,if_pos (swB_yes sa he),put_diff sa hch,goOn_3 (t:={s.th p with curr:=unmk (s.th p).next}) h0 hk2 hw]
    exact LK
   ·have hwn:=lenC hw
    by_cases hw0:w.length=0
    ·have hwl:=hro.2.2.2.1
     rw [hw,List.length_cons] at hwl
     have r5:((s.th p).work.map entA)[0]?=some (entA e):=by rw [hw];rfl
     have hwT:List.take ((((((s.th p).work.map entA)).length:Int)).toNat - Int.toNat 1) (List.drop (Int.toNat 1) ((s.th p).work.map entA))=w.map entA:=by rw [hw];simp only [List.map_cons,List.length_cons];exact List.take_of_length_le (by simp)
     have go9:decide (((List.take ((((((s.th p).work.map entA)).length:Int)).toNat - Int.toNat 1) (List.drop (Int.toNat 1) ((s.th p).work.map entA))).length:Int)>0)=false:=decide_eq_false (by rw [hwT,List.length_map];omega)
     have hwy:(if w.length=0 then (62:Int) else 60)=62:=if_pos hw0
     have x7:=fun {x y:R}=>br_neg (x:=x) (y:=y) go9
     rw [lnkA_1 hp0,lnkF_1 hp0,flt_ok hc,fldA_ok hc,if_pos (swB_yes sa he),put_diff sa hch,goOn_4 (t:={s.th p with curr:=unmk (s.th p).next}) h0 hk2 hw]
     exact LKg
    ·have hwl:=hro.2.2.2.1
     rw [hw,List.length_cons] at hwl
     have r5:((s.th p).work.map entA)[0]?=some (entA e):=by rw [hw];rfl
     have hwT:List.take ((((((s.th p).work.map entA)).length:Int)).toNat - Int.toNat 1) (List.drop (Int.toNat 1) ((s.th p).work.map entA))=w.map entA:=by rw [hw];simp only [List.map_cons,List.length_cons];exact List.take_of_length_le (by simp)
     have go9:decide (((List.take ((((((s.th p).work.map entA)).length:Int)).toNat - Int.toNat 1) (List.drop (Int.toNat 1) ((s.th p).work.map entA))).length:Int)>0)=true:=decide_eq_true (by rw [hwT,List.length_map];omega)
     have hwy:(if w.length=0 then (62:Int) else 60)=60:=if_neg hw0
     have x7:=fun {x y:R}=>br_pos (x:=x) (y:=y) go9
     rw [lnkA_1 hp0,lnkF_1 hp0,flt_ok hc,fldA_ok hc,if_pos (swB_yes sa he),put_diff sa hch,goOn_4 (t:={s.th p with curr:=unmk (s.th p).next}) h0 hk2 hw]
     exact LKg
 ·rw [lnkA_1 hp0,lnkF_1 hp0,flt_ok hc,fldA_ok hc,if_pos (swB_yes sa he),put_diff sa hch,goOn_1 (t:={s.th p with curr:=unmk (s.th p).next}) h0]
  exact LK
theorem Rmc_14 {n:Nat} {s:Sta} {p:Nat} (hs:staB s=true) (hr:s.room) (hi:s.i64) (hp:p<s.ths.length) (h:(s.th p).pc=14) (hp0:¬(s.th p).prev=0) (hc:¬curB s (unmk (s.th p).prev)=true):RK (n+15) s p:=by
 unfold RK;rw [callP_succ]
 obtain ⟨H,_,_,T6,_,hcf,_,_,_,_,_,_,_,_,_,r1,hL,_,_,w0,w1,w2,w3,_,hcl,_,_,_,_,_,_,x8⟩:=pre hs hr hi hp h (by decide)
 rw [stv,st14 h]
 have st1:=r1
 unfold sk14
 have hn6:I64 (s.th p).next:=T6.2.2.2.1
 have hu6:I64 (s.th p).prev:=T6.2.1
 have hv6:=unmk_i64 hu6
 have hf:(0:Int)≤2∧(2:Int)≤2:=by omega
 rcases cur_no hc with q1 | ⟨q1,q0⟩ | ⟨q1,q3,q0⟩
 ·rw [lnkA_1 hp0,lnkF_1 hp0,flt_no hc,fldA_no hc,if_neg swB_m1,rtr_f]
  exact LK
 ·rw [lnkA_1 hp0,lnkF_1 hp0,flt_no hc,fldA_no hc,if_neg swB_m1,rtr_f]
  exact LK
 ·have hnn:=idx_nn q1
  rw [lnkA_1 hp0,lnkF_1 hp0,flt_no hc,fldA_no hc,if_neg swB_m1,rtr_f]
  exact LK
end Go.Proofs.YtbploohjimpcaaaGreat.A
