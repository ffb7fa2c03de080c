/- What the program's functions answer (Gc): no condition. -/
import Derived.Test.YtbploohjimpcaaaGreatGb
set_option linter.unusedVariables false
set_option linter.unusedSimpArgs false
namespace Go.Proofs.YtbploohjimpcaaaGreat.A
open Go Go.Abs
set_option maxRecDepth 100000
noncomputable def Xgz (c:Cf) (t:Th):Bool:=Xfs t.pc&&opsB c t&&Xco c t&&(Vg c t.node&&Vg c t.prev&&Vg c t.curr&&Vg c t.next&&!isMk t.node&&!isMk t.prev&&!isMk t.curr)&&lhB c t.limbo&&inB t.snap 0 99&&decide (t.buf.length≤100)&&decide (t.work.length≤100)&&decide (t.free.length≤100)&&decide (t.found.length≤100)
theorem X2i {c:Cf} {t:Th}:(fB c t.free&&((t.buf++t.work).all (Wh c)&&Xgz c t))=thB c t:=by
 unfold Xgz thB Xdh Xie Xm0 lhB
 rw [List.all_append,←Xdw,←Xdw,←Xdw,Bool.eq_iff_iff]
 simp only [Bool.and_eq_true]
 constructor
 ·rintro ⟨h1,⟨h2,h3⟩,⟨⟨⟨⟨⟨⟨⟨⟨⟨h4,h5⟩,h6⟩,⟨⟨⟨⟨⟨⟨h7,h8⟩,h9⟩,h10⟩,h11⟩,h12⟩,h13⟩⟩,⟨h14,h15⟩⟩,h16⟩,h17⟩,h18⟩,h19⟩,h20⟩⟩
  simp_all
 ·intro h
  simp_all
set_option maxHeartbeats 8000000 in
theorem Xev {n:Nat} {c:Cf} {t:Th} (hc:Yp c=true) (ht:t.room) (hi:t.i64):callP cfg (n+5) 194 [.agg (cfA c),.agg (thA t)]=some ⟨.bool (thB c t),[]⟩:=by
 rw [Xa]
 obtain ⟨g1,g2,g3,g4,g5⟩:=ht
 have l5:t.limbo.length≤maxLen:=by unfold maxLen;omega
 obtain ⟨i1,i2,i3,i4,i5,i6,i7⟩:=hi
 have hb:=Xm hc
 have wk1:IntKind.i64.wrap (c.th - 1)=c.th - 1:=Xc (by omega) (by omega)
 have wk2:IntKind.i64.wrap (IntKind.i64.wrap (2*c.th) - 1)=2*c.th - 1:=by simp only [IntKind.wrap_i64];omega
 have wk3:IntKind.i64.wrap (c.cap - 1)=c.cap - 1:=Xc (by omega) (by omega)
 rw [←X2i]
 unfold fB
 refine go ?_
 refine (Xb (fun e k=>e.set 5 (.int .i64 (k:Int))) (fun h _=>h) (fun k=>some ⟨.bool (((t.free.drop k).all fun i=>inB i 0 (c.cap - 1))&&((t.buf++t.work).all (Wh c)&&Xgz c t)),[]⟩) t.free.length (by show _<18446744073709551616;omega) rfl ?_).trans rfl
 intro k f hk IH
 by_cases hlt:k<t.free.length
 ·have e1:=Xf (f:=iA) hlt
  have e2:=Xg k
  have r1:=Xe (f:=iA) hlt
  have hw:=Xv (k:=k) (by omega)
  rw [Xq hlt,List.all_cons]
  by_cases hv:inB (t.free.getD k default) 0 (c.cap - 1)=true
  ·have e3:(decide (0≤t.free.getD k default)&&decide (t.free.getD k default≤IntKind.i64.wrap (c.cap - 1)))=true:=by rw [wk3];exact hv
   have fq1:=@Xk
   refine go ?_
   clear fq1
   try with_reducible rfl
   rw [hv,Bool.true_and]
   exact IH hlt _ _ (by rw [hw];rfl) rfl
  ·have hv':inB (t.free.getD k default) 0 (c.cap - 1)=false:=by simpa only [Bool.not_eq_true] using hv
   have e3:(decide (0≤t.free.getD k default)&&decide (t.free.getD k default≤IntKind.i64.wrap (c.cap - 1)))=false:=by rw [wk3];exact hv'
   rw [hv']
   have fq1:=@Xk
   refine go ?_
   clear fq1
   try with_reducible rfl
   rfl
 ·have e1:=Xh (f:=iA) (Nat.le_of_not_lt hlt)
  rw [List.drop_eq_nil_of_le (by omega),List.all_nil,Bool.true_and]
  clear IH
  refine go ?_
  have hsum:IntKind.i64.wrap (((t.buf.map entA).length:Int)+((t.work.map entA).length:Int))=((t.buf.length+t.work.length:Nat):Int):=by
   rw [List.length_map,List.length_map]
   rw [Xc (by omega) (by omega)];omega
  refine (Xb (fun e k=>e.set 6 (.int .i64 (k:Int))) (fun h _=>h) (fun k=>some ⟨.bool (((t.buf++t.work).drop k).all (Wh c)&&Xgz c t),[]⟩) (t.buf.length+t.work.length) (by show _<18446744073709551616;omega) rfl ?_).trans rfl
  clear hlt e1 hk
  intro k f hk IH
  by_cases hlt:k<t.buf.length+t.work.length
  ·have e1:decide ((k:Int)<IntKind.i64.wrap (((t.buf.map entA).length:Int)+((t.work.map entA).length:Int)))=true:=by rw [hsum];exact decide_eq_true (by omega)
   have e2:=Xg k
   have hw:=Xv (k:=k) (by omega)
   have hl:(t.buf++t.work).length=t.buf.length+t.work.length:=List.length_append
   by_cases hb2:k<t.buf.length
   ·have e3:=Xf (f:=entA) hb2
    have r1:=Xe (f:=entA) hb2
    have hm:=i5 _ (Xi hb2)
    have hd:((t.buf++t.work).drop k).all (Wh c)=(Wh c (t.buf.getD k default)&&((t.buf++t.work).drop (k+1)).all (Wh c)):=by
     rw [Xq (by omega),List.all_cons]
     congr 2
     simp [List.getD_eq_getElem?_getD,List.getElem?_append_left hb2]
    by_cases a1:Zt (t.buf.getD k default)=true
    ·have n1:(!Zt (t.buf.getD k default))=false:=by rw [a1];rfl
     have a2:isH (t.buf.getD k default).h=true:=by
      unfold Zt at a1
      simp only [Bool.and_eq_true] at a1
      exact a1.1.1.1.1
     by_cases a3:(t.buf.getD k default).key<c.keys
     ·have n3:decide ((t.buf.getD k default).key≥c.keys)=false:=decide_eq_false (by omega)
      by_cases a4:idxB (t.buf.getD k default).h<c.cap
      ·have n4:decide (idxB (t.buf.getD k default).h≥c.cap)=false:=decide_eq_false (by omega)
       have a5:Wh c (t.buf.getD k default)=true:=by unfold Wh Y4;rw [a1,a2,decide_eq_true a3,decide_eq_true a4];rfl
       have fq1:=fun {n:Nat}=>Z8 (n:=n) hm
       have fq2:=fun {n:Nat}=>X8 (n:=n) hm
       refine go ?_
       clear fq1 fq2
       try with_reducible rfl
       rw [hd,a5,Bool.true_and]
       exact IH hlt _ _ (by rw [hw];rfl) rfl
      ·have n4:decide (idxB (t.buf.getD k default).h≥c.cap)=true:=decide_eq_true (by omega)
       have a5:Wh c (t.buf.getD k default)=false:=by unfold Wh Y4;rw [a1,a2,decide_eq_false a4];simp only [Bool.and_false]
       rw [hd,a5]
       have fq1:=fun {n:Nat}=>Z8 (n:=n) hm
       have fq2:=fun {n:Nat}=>X8 (n:=n) hm
       refine go ?_
       clear fq1 fq2
       try with_reducible rfl
       rfl
     ·have n3:decide ((t.buf.getD k default).key≥c.keys)=true:=decide_eq_true (by omega)
      have a5:Wh c (t.buf.getD k default)=false:=by unfold Wh;rw [a1,decide_eq_false a3];rfl
      rw [hd,a5]
      have fq1:=fun {n:Nat}=>Z8 (n:=n) hm
      refine go ?_
      clear fq1
      try with_reducible rfl
      rfl
    ·have a1':Zt (t.buf.getD k default)=false:=by simpa using a1
     have n1:(!Zt (t.buf.getD k default))=true:=by rw [a1'];rfl
     have a5:Wh c (t.buf.getD k default)=false:=by unfold Wh;rw [a1'];rfl
     rw [hd,a5]
     have fq1:=fun {n:Nat}=>Z8 (n:=n) hm
     refine go ?_
     clear fq1
     try with_reducible rfl
     rfl
   ·have e3:=Xh (f:=entA) (Nat.le_of_not_lt hb2)
    have hj:k - t.buf.length<t.work.length:=by omega
    have hx:IntKind.i64.wrap ((k:Int) - ((t.buf.map entA).length:Int))=((k - t.buf.length:Nat):Int):=by
     rw [List.length_map,Xc (by omega) (by omega)];omega
    have e4:decide (0≤IntKind.i64.wrap ((k:Int) - ((t.buf.map entA).length:Int)))=true:=by rw [hx];exact Xg _
    have e5:decide (IntKind.i64.wrap ((k:Int) - ((t.buf.map entA).length:Int))<((t.work.map entA).length:Int))=true:=by rw [hx];exact Xf hj
    have r1:(t.work.map entA)[(IntKind.i64.wrap ((k:Int) - ((t.buf.map entA).length:Int))).toNat]?=some (entA (t.work.getD (k - t.buf.length) default)):=by rw [hx];exact Xe hj
    have hm:=i6 _ (Xi hj)
    have hd:((t.buf++t.work).drop k).all (Wh c)=(Wh c (t.work.getD (k - t.buf.length) default)&&((t.buf++t.work).drop (k+1)).all (Wh c)):=by
     rw [Xq (by omega),List.all_cons]
     congr 2
     simp [List.getD_eq_getElem?_getD,List.getElem?_append_right (Nat.le_of_not_lt hb2)]
    by_cases a1:Zt (t.work.getD (k - t.buf.length) default)=true
    ·have n1:(!Zt (t.work.getD (k - t.buf.length) default))=false:=by rw [a1];rfl
     have a2:isH (t.work.getD (k - t.buf.length) default).h=true:=by
      unfold Zt at a1
      simp only [Bool.and_eq_true] at a1
      exact a1.1.1.1.1
     by_cases a3:(t.work.getD (k - t.buf.length) default).key<c.keys
     ·have n3:decide ((t.work.getD (k - t.buf.length) default).key≥c.keys)=false:=decide_eq_false (by omega)
      by_cases a4:idxB (t.work.getD (k - t.buf.length) default).h<c.cap
      ·have n4:decide (idxB (t.work.getD (k - t.buf.length) default).h≥c.cap)=false:=decide_eq_false (by omega)
       have a5:Wh c (t.work.getD (k - t.buf.length) default)=true:=by unfold Wh Y4;rw [a1,a2,decide_eq_true a3,decide_eq_true a4];rfl
       have fq1:=fun {n:Nat}=>Z8 (n:=n) hm
       have fq2:=fun {n:Nat}=>X8 (n:=n) hm
       refine go ?_
       clear fq1 fq2
       try with_reducible rfl
       rw [hd,a5,Bool.true_and]
       exact IH hlt _ _ (by rw [hw];rfl) rfl
      ·have n4:decide (idxB (t.work.getD (k - t.buf.length) default).h≥c.cap)=true:=decide_eq_true (by omega)
       have a5:Wh c (t.work.getD (k - t.buf.length) default)=false:=by unfold Wh Y4;rw [a1,a2,decide_eq_false a4];simp only [Bool.and_false]
       rw [hd,a5]
       have fq1:=fun {n:Nat}=>Z8 (n:=n) hm
       have fq2:=fun {n:Nat}=>X8 (n:=n) hm
       refine go ?_
       clear fq1 fq2
       try with_reducible rfl
       rfl
     ·have n3:decide ((t.work.getD (k - t.buf.length) default).key≥c.keys)=true:=decide_eq_true (by omega)
      have a5:Wh c (t.work.getD (k - t.buf.length) default)=false:=by unfold Wh;rw [a1,decide_eq_false a3];rfl
      rw [hd,a5]
      have fq1:=fun {n:Nat}=>Z8 (n:=n) hm
      refine go ?_
      clear fq1
      try with_reducible rfl
      rfl
    ·have a1':Zt (t.work.getD (k - t.buf.length) default)=false:=by simpa using a1
     have n1:(!Zt (t.work.getD (k - t.buf.length) default))=true:=by rw [a1'];rfl
     have a5:Wh c (t.work.getD (k - t.buf.length) default)=false:=by unfold Wh;rw [a1'];rfl
     rw [hd,a5]
     have fq1:=fun {n:Nat}=>Z8 (n:=n) hm
     refine go ?_
     clear fq1
     try with_reducible rfl
     rfl
  ·have e1:decide ((k:Int)<IntKind.i64.wrap (((t.buf.map entA).length:Int)+((t.work.map entA).length:Int)))=false:=by rw [hsum];exact decide_eq_false (by omega)
   rw [List.drop_eq_nil_of_le (by rw [List.length_append];omega),List.all_nil,Bool.true_and]
   clear IH hlt hk hsum
   rcases Xsn t.pc with h | h | h | h | h | h
   ·have p0:(t.pc !=0)=false:=Yb h
    have p60:(t.pc==60)=false:=Xt (by rw [h];decide)
    have p61:(t.pc==61)=false:=Xt (by rw [h];decide)
    have p50:(t.pc==50)=false:=Xt (by rw [h];decide)
    have p70:(t.pc==70)=false:=Xt (by rw [h];decide)
    have fq1:=@Qo
    have fq2:=@Yn
    have fq3:=@Xk
    have fq4:=fun {n:Nat} {c:Cf}=>X3 (n:=n) (c:=c) i1
    have fq5:=fun {n:Nat} {c:Cf}=>X3 (n:=n) (c:=c) i2
    have fq6:=fun {n:Nat} {c:Cf}=>X3 (n:=n) (c:=c) i3
    have fq7:=fun {n:Nat} {c:Cf}=>X3 (n:=n) (c:=c) i4
    have fq8:=fun {n:Nat}=>X5 (n:=n) i1
    have fq9:=fun {n:Nat}=>X5 (n:=n) i2
    have fq10:=fun {n:Nat}=>X5 (n:=n) i3
    have fq11:=fun {n:Nat} {c:Cf}=>W7 (n:=n) (c:=c) l5 i7
    refine goS ?_
    clear fq1 fq2 fq3 fq4 fq5 fq6 fq7 fq8 fq9 fq10 fq11
    repeat' (refine Y9 (fun _=>?_) (fun _=>?_))
    all_goals (conv=>lhs;whnf)
    all_goals (refine okB ?_;clear g1 g2 g3 g4 g5 l5 i1 i2 i3 i4 i5 i6 i7 e1 hc wk3;rw [Bool.eq_iff_iff];unfold Xgz opsB Xco inB;first | (simp_all;done) | (simp_all;omega))
   ·have p0:(t.pc !=0)=true:=Zn (by rw [h];decide)
    have p60:(t.pc==60)=true:=Yk h
    have p61:(t.pc==61)=false:=Xt (by rw [h];decide)
    have p50:(t.pc==50)=false:=Xt (by rw [h];decide)
    have p70:(t.pc==70)=false:=Xt (by rw [h];decide)
    have fq1:=@Qo
    have fq2:=@Yn
    have fq3:=@Xk
    have fq4:=fun {n:Nat} {c:Cf}=>X3 (n:=n) (c:=c) i1
    have fq5:=fun {n:Nat} {c:Cf}=>X3 (n:=n) (c:=c) i2
    have fq6:=fun {n:Nat} {c:Cf}=>X3 (n:=n) (c:=c) i3
    have fq7:=fun {n:Nat} {c:Cf}=>X3 (n:=n) (c:=c) i4
    have fq8:=fun {n:Nat}=>X5 (n:=n) i1
    have fq9:=fun {n:Nat}=>X5 (n:=n) i2
    have fq10:=fun {n:Nat}=>X5 (n:=n) i3
    have fq11:=fun {n:Nat} {c:Cf}=>W7 (n:=n) (c:=c) l5 i7
    refine goS ?_
    clear fq1 fq2 fq3 fq4 fq5 fq6 fq7 fq8 fq9 fq10 fq11
    repeat' (refine Y9 (fun _=>?_) (fun _=>?_))
    all_goals (conv=>lhs;whnf)
    all_goals (refine okB ?_;clear g1 g2 g3 g4 g5 l5 i1 i2 i3 i4 i5 i6 i7 e1 hc wk3;rw [Bool.eq_iff_iff];unfold Xgz opsB Xco inB;first | (simp_all;done) | (simp_all;omega))
   ·have p0:(t.pc !=0)=true:=Zn (by rw [h];decide)
    have p60:(t.pc==60)=false:=Xt (by rw [h];decide)
    have p61:(t.pc==61)=true:=Yk h
    have p50:(t.pc==50)=false:=Xt (by rw [h];decide)
    have p70:(t.pc==70)=false:=Xt (by rw [h];decide)
    have fq1:=@Qo
    have fq2:=@Yn
    have fq3:=@Xk
    have fq4:=fun {n:Nat} {c:Cf}=>X3 (n:=n) (c:=c) i1
    have fq5:=fun {n:Nat} {c:Cf}=>X3 (n:=n) (c:=c) i2
    have fq6:=fun {n:Nat} {c:Cf}=>X3 (n:=n) (c:=c) i3
    have fq7:=fun {n:Nat} {c:Cf}=>X3 (n:=n) (c:=c) i4
    have fq8:=fun {n:Nat}=>X5 (n:=n) i1
    have fq9:=fun {n:Nat}=>X5 (n:=n) i2
    have fq10:=fun {n:Nat}=>X5 (n:=n) i3
    have fq11:=fun {n:Nat} {c:Cf}=>W7 (n:=n) (c:=c) l5 i7
    refine goS ?_
    clear fq1 fq2 fq3 fq4 fq5 fq6 fq7 fq8 fq9 fq10 fq11
    repeat' (refine Y9 (fun _=>?_) (fun _=>?_))
    all_goals (conv=>lhs;whnf)
    all_goals (refine okB ?_;clear g1 g2 g3 g4 g5 l5 i1 i2 i3 i4 i5 i6 i7 e1 hc wk3;rw [Bool.eq_iff_iff];unfold Xgz opsB Xco inB;first | (simp_all;done) | (simp_all;omega))
   ·have p0:(t.pc !=0)=true:=Zn (by rw [h];decide)
    have p60:(t.pc==60)=false:=Xt (by rw [h];decide)
    have p61:(t.pc==61)=false:=Xt (by rw [h];decide)
    have p50:(t.pc==50)=true:=Yk h
    have p70:(t.pc==70)=false:=Xt (by rw [h];decide)
    have fq1:=@Qo
    have fq2:=@Yn
    have fq3:=@Xk
    have fq4:=fun {n:Nat} {c:Cf}=>X3 (n:=n) (c:=c) i1
    have fq5:=fun {n:Nat} {c:Cf}=>X3 (n:=n) (c:=c) i2
    have fq6:=fun {n:Nat} {c:Cf}=>X3 (n:=n) (c:=c) i3
    have fq7:=fun {n:Nat} {c:Cf}=>X3 (n:=n) (c:=c) i4
    have fq8:=fun {n:Nat}=>X5 (n:=n) i1
    have fq9:=fun {n:Nat}=>X5 (n:=n) i2
    have fq10:=fun {n:Nat}=>X5 (n:=n) i3
    have fq11:=fun {n:Nat} {c:Cf}=>W7 (n:=n) (c:=c) l5 i7
    refine goS ?_
    clear fq1 fq2 fq3 fq4 fq5 fq6 fq7 fq8 fq9 fq10 fq11
    repeat' (refine Y9 (fun _=>?_) (fun _=>?_))
    all_goals (conv=>lhs;whnf)
    all_goals (refine okB ?_;clear g1 g2 g3 g4 g5 l5 i1 i2 i3 i4 i5 i6 i7 e1 hc wk3;rw [Bool.eq_iff_iff];unfold Xgz opsB Xco inB;first | (simp_all;done) | (simp_all;omega))
   ·have p0:(t.pc !=0)=true:=Zn (by rw [h];decide)
    have p60:(t.pc==60)=false:=Xt (by rw [h];decide)
    have p61:(t.pc==61)=false:=Xt (by rw [h];decide)
    have p50:(t.pc==50)=false:=Xt (by rw [h];decide)
    have p70:(t.pc==70)=true:=Yk h
    have fq1:=@Qo
    have fq2:=@Yn
    have fq3:=@Xk
    have fq4:=fun {n:Nat} {c:Cf}=>X3 (n:=n) (c:=c) i1
    have fq5:=fun {n:Nat} {c:Cf}=>X3 (n:=n) (c:=c) i2
    have fq6:=fun {n:Nat} {c:Cf}=>X3 (n:=n) (c:=c) i3
    have fq7:=fun {n:Nat} {c:Cf}=>X3 (n:=n) (c:=c) i4
    have fq8:=fun {n:Nat}=>X5 (n:=n) i1
    have fq9:=fun {n:Nat}=>X5 (n:=n) i2
    have fq10:=fun {n:Nat}=>X5 (n:=n) i3
    have fq11:=fun {n:Nat} {c:Cf}=>W7 (n:=n) (c:=c) l5 i7
    refine goS ?_
    clear fq1 fq2 fq3 fq4 fq5 fq6 fq7 fq8 fq9 fq10 fq11
    repeat' (refine Y9 (fun _=>?_) (fun _=>?_))
    all_goals (conv=>lhs;whnf)
    all_goals (refine okB ?_;clear g1 g2 g3 g4 g5 l5 i1 i2 i3 i4 i5 i6 i7 e1 hc wk3;rw [Bool.eq_iff_iff];unfold Xgz opsB Xco inB;first | (simp_all;done) | (simp_all;omega))
   ·have p0:(t.pc !=0)=true:=Zn h.1
    have p60:(t.pc==60)=false:=Xt h.2.1
    have p61:(t.pc==61)=false:=Xt h.2.2.1
    have p50:(t.pc==50)=false:=Xt h.2.2.2.1
    have p70:(t.pc==70)=false:=Xt h.2.2.2.2
    have fq1:=@Qo
    have fq2:=@Yn
    have fq3:=@Xk
    have fq4:=fun {n:Nat} {c:Cf}=>X3 (n:=n) (c:=c) i1
    have fq5:=fun {n:Nat} {c:Cf}=>X3 (n:=n) (c:=c) i2
    have fq6:=fun {n:Nat} {c:Cf}=>X3 (n:=n) (c:=c) i3
    have fq7:=fun {n:Nat} {c:Cf}=>X3 (n:=n) (c:=c) i4
    have fq8:=fun {n:Nat}=>X5 (n:=n) i1
    have fq9:=fun {n:Nat}=>X5 (n:=n) i2
    have fq10:=fun {n:Nat}=>X5 (n:=n) i3
    have fq11:=fun {n:Nat} {c:Cf}=>W7 (n:=n) (c:=c) l5 i7
    refine goS ?_
    clear fq1 fq2 fq3 fq4 fq5 fq6 fq7 fq8 fq9 fq10 fq11
    repeat' (refine Y9 (fun _=>?_) (fun _=>?_))
    all_goals (conv=>lhs;whnf)
    all_goals (refine okB ?_;clear g1 g2 g3 g4 g5 l5 i1 i2 i3 i4 i5 i6 i7 e1 hc wk3;rw [Bool.eq_iff_iff];unfold Xgz opsB Xco inB;first | (simp_all;done) | (simp_all;omega))
end Go.Proofs.YtbploohjimpcaaaGreat.A
