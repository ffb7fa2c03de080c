/- What the program's functions answer (Ge): no condition. -/
import Derived.Test.YtbploohjimpcaaaGreatGc
import Derived.Test.YtbploohjimpcaaaGreatGd
import Derived.Test.YtbploohjimpcaaaGreatGa
set_option linter.unusedVariables false
set_option linter.unusedSimpArgs false
namespace Go.Proofs.YtbploohjimpcaaaGreat.A
open Go Go.Abs
set_option maxRecDepth 100000
abbrev Xih (s:Sta) (i:Nat):Bool:=Vg s.c (cl s (ncB s.c i 2))&&inB (cl s (ncB s.c i 0)) 0 99
def Xft (s:Sta):Bool:=(List.range s.c.cap.toNat).all (Xih s)
abbrev Xkv (x:Int):Bool:=inB x 0 9998
def Xkw (s:Sta):Bool:=inB (cl s 0) 1 s.c.cm&&(inB (cl s 1) 0 s.c.cap&&(inB s.steps 0 1000000&&(inB s.changes 0 1000000&&(inB s.retries 0 1000000&&inB s.faults 0 1000000))))
noncomputable def staS (s:Sta):Bool:=Yp s.c&&(eqI s.cells.length (ccB s.c)&&(eqI s.gens.length s.c.cap&&(eqI s.ths.length s.c.th&&(s.gens.all Xkv&&(s.ths.all (thB s.c)&&(Xdi s&&(Xft s&&Xkw s)))))))
theorem Xxj {l:List Int} {p:Int→Bool}:l.all p=(List.range l.length).all fun i=>p (l.getD i default):=by
 rw [Bool.eq_iff_iff,List.all_eq_true,List.all_eq_true]
 constructor
 ·intro h i hi
  exact h _ (Xi (List.mem_range.1 hi))
 ·intro h x hx
  obtain ⟨i,hi,rfl⟩:=List.getElem_of_mem hx
  have:=h i (List.mem_range.2 hi)
  simpa [List.getD_eq_getElem?_getD,hi] using this
theorem X2k {l:List Nat} {p q:Nat→Bool}:(l.all p&&l.all q)=l.all fun i=>p i&&q i:=by
 induction l with
 | nil=>rfl
 | cons a l ih =>
   simp only [List.all_cons,←ih]
   cases p a <;> cases q a <;> simp
theorem X2l {s:Sta}:staS s=staB s:=by
 unfold staS staB
 by_cases hc:Yp s.c=true
 ·by_cases n2:eqI s.gens.length s.c.cap=true
  ·have m2:(s.gens.length:Int)=s.c.cap:=of_decide_eq_true n2
   have e:(s.gens.all Xkv&&Xft s)=Xhi s:=by
    unfold Xft Xhi
    have el:s.c.cap.toNat=s.gens.length:=by omega
    rw [Xxj,el,X2k]
    congr 1
    funext i
    simp only [Xkv,Xih,Xbi]
    cases Vg s.c (cl s (ncB s.c i 2)) <;> simp
   rw [←e,hc,n2]
   unfold Xkw
   generalize s.gens.all Xkv=a1
   generalize Xft s=a2
   generalize s.ths.all (thB s.c)=a3
   generalize Xdi s=a4
   generalize eqI s.cells.length (ccB s.c)=a5
   generalize eqI s.ths.length s.c.th=a6
   generalize inB (cl s 0) 1 s.c.cm=b1
   generalize inB (cl s 1) 0 s.c.cap=b2
   generalize inB s.steps 0 1000000=b3
   generalize inB s.changes 0 1000000=b4
   generalize inB s.retries 0 1000000=b5
   generalize inB s.faults 0 1000000=b6
   cases a1 <;> cases a2 <;> cases a3 <;> cases a4 <;> cases a5 <;> cases a6 <;> simp
  ·replace n2:eqI s.gens.length s.c.cap=false:=by simpa only [Bool.not_eq_true] using n2
   rw [n2];simp
 ·replace hc:Yp s.c=false:=by simpa only [Bool.not_eq_true] using hc
  rw [hc];simp
set_option maxHeartbeats 8000000 in
theorem Xr {n:Nat} {s:Sta} (hr:s.room) (hi:s.i64):callP cfg (n+6) 130 [.agg (staA s)]=some ⟨.bool (staB s),[]⟩:=by
 rw [Xa]
 rw [←X2l]
 by_cases hc:Yp s.c=true
 ·skip
  by_cases n1:eqI s.cells.length (ccB s.c)=true
  ·skip
   have n1f:=(Yb (by rw [List.length_map];exact of_decide_eq_true n1):(((s.cells.map iA).length:Int) !=ccB s.c)=false)
   by_cases n2:eqI s.gens.length s.c.cap=true
   ·skip
    have n2f:=(Yb (by rw [List.length_map];exact of_decide_eq_true n2):(((s.gens.map iA).length:Int) !=s.c.cap)=false)
    by_cases n3:eqI s.ths.length s.c.th=true
    ·skip
     have n3f:=(Yb (by rw [List.length_map];exact of_decide_eq_true n3):(((s.ths.map thA).length:Int) !=s.c.th)=false)
     have hb:=Xm hc
     have m1:(s.cells.length:Int)=ccB s.c:=of_decide_eq_true n1
     have m2:(s.gens.length:Int)=s.c.cap:=of_decide_eq_true n2
     have m3:(s.ths.length:Int)=s.c.th:=of_decide_eq_true n3
     have hcc:ccB s.c=2+3*s.c.th+s.c.keys+3*s.c.cap:=by unfold ccB;rw [if_pos hc]
     have c0:(s.cells.map iA)[(0:Int).toNat]?=some (iA (cl s 0)):=V6 (by omega)
     have c1:(s.cells.map iA)[(1:Int).toNat]?=some (iA (cl s 1)):=V6 (by omega)
     have k0:decide ((0:Int)<((s.cells.map iA).length:Int))=true:=Xal (by omega)
     have k1:decide ((1:Int)<((s.cells.map iA).length:Int))=true:=Xal (by omega)
     have z0:decide ((0:Int)≤0)=true:=rfl
     have z1:decide ((0:Int)≤1)=true:=rfl
     have hS:staS s=(s.gens.all Xkv&&(s.ths.all (thB s.c)&&(Xdi s&&(Xft s&&Xkw s)))):=by unfold staS;simp only [hc,n1,n2,n3,Bool.true_and]
     rw [hS]
     have fq1:=@X0
     have fq2:=@W6
     have fq3:=@Xk
     refine go ?_
     clear fq1 fq2 fq3
     refine (Xb (fun e k=>e.set 3 (.int .i64 (k:Int))) (fun h _=>h) (fun k=>some ⟨.bool ((s.gens.drop k).all Xkv&&(s.ths.all (thB s.c)&&(Xdi s&&(Xft s&&Xkw s)))),[]⟩) s.gens.length (by show _<18446744073709551616;omega) rfl ?_).trans rfl
     intro k f hk IH
     by_cases hlt:k<s.gens.length
     ·have e1:=Xf (f:=iA) hlt
      have e2:=Xg k
      have r1:=Xe (f:=iA) hlt
      have hw:=Xv (k:=k) (by omega)
      rw [Xq hlt,List.all_cons]
      by_cases hv:Xkv (s.gens.getD k default)=true
      ·skip
       have fq1:=@Xk
       refine go ?_
       clear fq1
       try with_reducible rfl
       rw [hv,Bool.true_and]
       exact IH hlt _ _ (by rw [hw];rfl) rfl
      ·have hv':Xkv (s.gens.getD k default)=false:=by simpa only [Bool.not_eq_true] using hv
       rw [hv']
       have fq1:=@Xk
       refine go ?_
       clear fq1
       try with_reducible rfl
       rfl
     ·have e1:=Xh (f:=iA) (Nat.le_of_not_lt hlt)
      rw [List.drop_eq_nil_of_le (by omega),List.all_nil,Bool.true_and]
      clear IH
      refine go ?_
      refine (Xb (fun e k=>e.set 4 (.int .i64 (k:Int))) (fun h _=>h) (fun k=>some ⟨.bool ((s.ths.drop k).all (thB s.c)&&(Xdi s&&(Xft s&&Xkw s))),[]⟩) s.ths.length (by show _<18446744073709551616;omega) rfl ?_).trans rfl
      clear hlt e1 hk
      intro k f hk IH
      by_cases hlt:k<s.ths.length
      ·have e1:=Xf (f:=thA) hlt
       have e2:=Xg k
       have r1:=Xe (f:=thA) hlt
       have hw:=Xv (k:=k) (by omega)
       have hm1:=hr.2.2.2 _ (Xi hlt)
       have hm2:=hi.2 _ (Xi hlt)
       rw [Xq hlt,List.all_cons]
       by_cases hv:thB s.c (s.ths.getD k default)=true
       ·skip
        have fq1:=fun {n:Nat}=>Xev (n:=n) hc hm1 hm2
        refine go ?_
        clear fq1
        try with_reducible rfl
        rw [hv,Bool.true_and]
        exact IH hlt _ _ (by rw [hw];rfl) rfl
       ·have hv':thB s.c (s.ths.getD k default)=false:=by simpa only [Bool.not_eq_true] using hv
        rw [hv']
        have fq1:=fun {n:Nat}=>Xev (n:=n) hc hm1 hm2
        refine go ?_
        clear fq1
        try with_reducible rfl
        rfl
      ·have e1:=Xh (f:=thA) (Nat.le_of_not_lt hlt)
       rw [List.drop_eq_nil_of_le (by omega),List.all_nil,Bool.true_and]
       clear IH
       refine go ?_
       refine (Xb (fun e k=>e.set 5 (.int .i64 (k:Int))) (fun h _=>h) (fun k=>some ⟨.bool (((List.range s.c.keys.toNat).drop k).all (Xar s)&&(Xft s&&Xkw s)),[]⟩) s.c.keys.toNat (by show _<18446744073709551616;omega) rfl ?_).trans rfl
       clear hlt e1 hk
       intro k f hk IH
       by_cases hlt:k<s.c.keys.toNat
       ·have e1:decide ((k:Int)<s.c.keys)=true:=decide_eq_true (by omega)
        have hw:=Xv (k:=k) (by omega)
        have hh:=Xif hc hlt
        rw [←m1] at hh
        have e2:decide (0≤X2 s.c k)=true:=decide_eq_true hh.1
        have e3:=Xal hh
        have r1:=V6 hh
        have hm:=hi.1 _ (Xdj hh)
        have hk4:(0:Int)≤(k:Int)∧(k:Int)<4:=by omega
        rw [Vt hlt,List.all_cons]
        by_cases v1:Vg s.c (cl s (X2 s.c k))=true
        ·by_cases v2:isMk (cl s (X2 s.c k))=true
         ·have hv:Xar s k=false:=by unfold Xar;rw [←Xdw,v1,v2];rfl
          rw [hv]
          have fq1:=fun {n:Nat} {c:Cf}=>Ui (n:=n) (c:=c) hk4
          have fq2:=fun {n:Nat} {c:Cf}=>X3 (n:=n) (c:=c) hm
          have fq3:=fun {n:Nat}=>X5 (n:=n) hm
          refine go ?_
          clear fq1 fq2 fq3
          try with_reducible rfl
          rfl
         ·replace v2:isMk (cl s (X2 s.c k))=false:=by simpa only [Bool.not_eq_true] using v2
          have hv:Xar s k=true:=by unfold Xar;rw [←Xdw,v1,v2];rfl
          rw [hv,Bool.true_and]
          have fq1:=fun {n:Nat} {c:Cf}=>Ui (n:=n) (c:=c) hk4
          have fq2:=fun {n:Nat} {c:Cf}=>X3 (n:=n) (c:=c) hm
          have fq3:=fun {n:Nat}=>X5 (n:=n) hm
          refine go ?_
          clear fq1 fq2 fq3
          try with_reducible rfl
          exact IH hlt _ _ (by rw [hw];rfl) rfl
        ·replace v1:Vg s.c (cl s (X2 s.c k))=false:=by simpa only [Bool.not_eq_true] using v1
         have hv:Xar s k=false:=by unfold Xar;rw [←Xdw,v1];rfl
         rw [hv]
         have fq1:=fun {n:Nat} {c:Cf}=>Ui (n:=n) (c:=c) hk4
         have fq2:=fun {n:Nat} {c:Cf}=>X3 (n:=n) (c:=c) hm
         refine go ?_
         clear fq1 fq2
         try with_reducible rfl
         rfl
       ·have e1:decide ((k:Int)<s.c.keys)=false:=decide_eq_false (by omega)
        rw [List.drop_eq_nil_of_le (by rw [List.length_range];omega),List.all_nil,Bool.true_and]
        clear IH
        refine go ?_
        refine (Xb (fun e k=>e.set 7 (.int .i64 (k:Int))) (fun h _=>h) (fun k=>some ⟨.bool (((List.range s.c.cap.toNat).drop k).all (Xih s)&&Xkw s),[]⟩) s.c.cap.toNat (by show _<18446744073709551616;omega) rfl ?_).trans rfl
        clear hlt e1 hk
        intro k f hk IH
        by_cases hlt:k<s.c.cap.toNat
        ·have e1:decide ((k:Int)<s.c.cap)=true:=decide_eq_true (by omega)
         have hw:=Xv (k:=k) (by omega)
         have h0:=Xv0 (f:=0) hc hlt (by omega)
         have h2:=Xv0 (f:=2) hc hlt (by omega)
         rw [←m1] at h0 h2
         have e2:decide (0≤ncB s.c k 0)=true:=decide_eq_true h0.1
         have e3:=Xal h0
         have r0:=V6 h0
         have e4:decide (0≤ncB s.c k 2)=true:=decide_eq_true h2.1
         have e5:=Xal h2
         have r2:=V6 h2
         have hm2:=hi.1 _ (Xdj h2)
         have hk4:(0:Int)≤(k:Int)∧(k:Int)<24:=by omega
         rw [Vt hlt,List.all_cons]
         by_cases v3:Vg s.c (cl s (ncB s.c k 2))=true
         ·by_cases v2:inB (cl s (ncB s.c k 0)) 0 99=true
          ·have hv:Xih s k=true:=by unfold Xih;rw [v2,v3];rfl
           rw [hv,Bool.true_and]
           have fq1:=fun {n:Nat} {c:Cf}=>Wb (n:=n) (c:=c) (f:=0) hk4 (by decide)
           have fq2:=fun {n:Nat} {c:Cf}=>Wb (n:=n) (c:=c) (f:=2) hk4 (by decide)
           have fq3:=@Xk
           have fq4:=fun {n:Nat} {c:Cf}=>X3 (n:=n) (c:=c) hm2
           refine go ?_
           clear fq1 fq2 fq3 fq4
           try with_reducible rfl
           exact IH hlt _ _ (by rw [hw];rfl) rfl
          ·replace v2:inB (cl s (ncB s.c k 0)) 0 99=false:=by simpa only [Bool.not_eq_true] using v2
           have hv:Xih s k=false:=by unfold Xih;rw [v3,v2];rfl
           rw [hv]
           have fq1:=fun {n:Nat} {c:Cf}=>Wb (n:=n) (c:=c) (f:=0) hk4 (by decide)
           have fq2:=fun {n:Nat} {c:Cf}=>Wb (n:=n) (c:=c) (f:=2) hk4 (by decide)
           have fq3:=@Xk
           have fq4:=fun {n:Nat} {c:Cf}=>X3 (n:=n) (c:=c) hm2
           refine go ?_
           clear fq1 fq2 fq3 fq4
           try with_reducible rfl
           rfl
         ·replace v3:Vg s.c (cl s (ncB s.c k 2))=false:=by simpa only [Bool.not_eq_true] using v3
          have hv:Xih s k=false:=by unfold Xih;rw [v3];rfl
          rw [hv]
          have fq1:=fun {n:Nat} {c:Cf}=>Wb (n:=n) (c:=c) (f:=0) hk4 (by decide)
          have fq2:=fun {n:Nat} {c:Cf}=>Wb (n:=n) (c:=c) (f:=2) hk4 (by decide)
          have fq3:=fun {n:Nat} {c:Cf}=>X3 (n:=n) (c:=c) hm2
          refine go ?_
          clear fq1 fq2 fq3
          try with_reducible rfl
          rfl
        ·have e1:decide ((k:Int)<s.c.cap)=false:=decide_eq_false (by omega)
         rw [List.drop_eq_nil_of_le (by rw [List.length_range];omega),List.all_nil,Bool.true_and]
         clear IH
         have r9:=c0
         have r8:=c1
         have fq1:=@Xk
         refine goS ?_
         clear r9 r8 fq1
         repeat' (refine Y9 (fun _=>?_) (fun _=>?_))
         all_goals (conv=>lhs;whnf)
         all_goals (refine okB ?_;clear hr hi;unfold Xkw inB;first | (simp_all;done) | (simp_all;intros;omega) | (rw [Bool.eq_iff_iff];simp_all;done))
    ·replace n3:eqI s.ths.length s.c.th=false:=by simpa only [Bool.not_eq_true] using n3
     have n3f:=(Zn (by rw [List.length_map];exact of_decide_eq_false n3):(((s.ths.map thA).length:Int) !=s.c.th)=true)
     have fq1:=@X0
     have fq2:=@W6
     refine go ?_
     clear fq1 fq2
     try with_reducible rfl
     refine okB ?_
     unfold staS
     simp only [n3,Bool.false_and,Bool.and_false]
   ·replace n2:eqI s.gens.length s.c.cap=false:=by simpa only [Bool.not_eq_true] using n2
    have n2f:=(Zn (by rw [List.length_map];exact of_decide_eq_false n2):(((s.gens.map iA).length:Int) !=s.c.cap)=true)
    have fq1:=@X0
    have fq2:=@W6
    refine go ?_
    clear fq1 fq2
    try with_reducible rfl
    refine okB ?_
    unfold staS
    simp only [n2,Bool.false_and,Bool.and_false]
  ·replace n1:eqI s.cells.length (ccB s.c)=false:=by simpa only [Bool.not_eq_true] using n1
   have n1f:=(Zn (by rw [List.length_map];exact of_decide_eq_false n1):(((s.cells.map iA).length:Int) !=ccB s.c)=true)
   have fq1:=@X0
   have fq2:=@W6
   refine go ?_
   clear fq1 fq2
   try with_reducible rfl
   refine okB ?_
   unfold staS
   simp only [n1,Bool.false_and,Bool.and_false]
 ·replace hc:Yp s.c=false:=by simpa only [Bool.not_eq_true] using hc
  have fq1:=@X0
  have fq2:=@W6
  refine go ?_
  clear fq1 fq2
  try with_reducible rfl
  refine okB ?_
  unfold staS
  simp only [hc,Bool.false_and,Bool.and_false]
theorem Xew {n:Nat} {a b:Th} (ha:a.len):callP cfg (n+3) 210 [.agg (thA a),.agg (thA b)]=some ⟨.bool (decide (a=b)),[]⟩:=by
 rw [Xa]
 obtain ⟨h1,h2,h3,h4,h5⟩:=ha
 have fq1:=@Xc2
 have fq2:=@Xet
 have fq3:=fun {n:Nat} {ys:List Int}=>Vs (n:=n) (ys:=ys) h1
 have fq4:=fun {n:Nat} {ys:List Int}=>Vs (n:=n) (ys:=ys) h2
 have fq5:=fun {n:Nat} {ys:List Int}=>Vs (n:=n) (ys:=ys) h5
 have fq6:=fun {n:Nat} {ys:List Ent}=>Xeu (n:=n) (ys:=ys) h3
 have fq7:=fun {n:Nat} {ys:List Ent}=>Xeu (n:=n) (ys:=ys) h4
 refine goS ?_
 clear fq1 fq2 fq3 fq4 fq5 fq6 fq7
 repeat' (refine Y9 (fun _=>?_) (fun _=>?_))
 all_goals (conv=>lhs;whnf)
 all_goals (refine okB ?_;obtain ⟨_,⟨_,_,_⟩,⟨_,_⟩,_,_,_,_,_,_,_,_,_,_,_,_,_⟩:=a;obtain ⟨_,⟨_,_,_⟩,⟨_,_⟩,_,_,_,_,_,_,_,_,_,_,_,_,_⟩:=b;simp_all <;> (intros;simp_all))
theorem Xj2 {n:Nat} {xs ys:List Th} (hx:xs.length≤maxLen) (hxs:∀ t∈xs,t.len):callP cfg (n+4) 142 [thsA xs,thsA ys]=some ⟨.bool (decide (xs=ys)),[]⟩:=by
 rw [Xa]
 unfold maxLen at hx
 by_cases hl:xs.length=ys.length
 ·have e0:(((xs.map thA).length:Int) !=((ys.map thA).length:Int))=false:=by simp [hl]
  refine go ?_
  refine (Xb (fun e k=>e.set 5 (.int .i64 (k:Int))) (fun h _=>h) (fun k=>some ⟨.bool (decide (xs.drop k=ys.drop k)),[]⟩) xs.length (by show _<18446744073709551616;omega) rfl ?_).trans (by simp)
  intro k f hk IH
  by_cases hlt:k<xs.length
  ·have e1:=Xf (f:=thA) hlt
   have e2:=Xg k
   have e3:=Xf (f:=thA) (xs:=ys) (k:=k) (by omega)
   have r1:=Xe (f:=thA) hlt
   have r2:=Xe (l:=ys) (f:=thA) (i:=k) (by omega)
   have hw:=Xv (k:=k) (by omega)
   have hm:=hxs _ (Xi hlt)
   by_cases hv:xs.getD k default=ys.getD k default
   ·have e4:(!decide (xs.getD k default=ys.getD k default))=false:=by rw [hv];simp
    have fq1:=fun {n:Nat} {b:Th}=>Xew (n:=n) (b:=b) hm
    refine go ?_
    clear fq1
    try with_reducible rfl
    refine (IH hlt _ _ (by rw [hw];rfl) rfl).trans ?_
    rw [Xq hlt,Xq (l:=ys) (by omega:k<ys.length),hv]
    simp
   ·have e4:(!decide (xs.getD k default=ys.getD k default))=true:=by simpa using hv
    have fq1:=fun {n:Nat} {b:Th}=>Xew (n:=n) (b:=b) hm
    refine go ?_
    clear fq1
    try with_reducible rfl
    rw [Xq hlt,Xq (l:=ys) (by omega:k<ys.length)]
    simp
    exact fun h=>absurd h hv
  ·have e1:=Xh (f:=thA) (Nat.le_of_not_lt hlt)
   refine go ?_
   try with_reducible rfl
   rw [List.drop_eq_nil_of_le (by omega),List.drop_eq_nil_of_le (by omega)]
   simp
 ·have e0:(((xs.map thA).length:Int) !=((ys.map thA).length:Int))=true:=Zn (by simp only [List.length_map];omega)
  refine go ?_
  try with_reducible rfl
  have:¬xs=ys:=fun e=>hl (by rw [e])
  simp [this]
theorem Xm1 {n:Nat} {a b:Sta} (ha:a.len):callP cfg (n+5) 75 [.agg (staA a),.agg (staA b)]=some ⟨.bool (decide (a=b)),[]⟩:=by
 rw [Xa]
 obtain ⟨h1,h2,h3,h4⟩:=ha
 have fq1:=@Xes
 have fq2:=fun {n:Nat} {ys:List Int}=>Vs (n:=n) (ys:=ys) h1
 have fq3:=fun {n:Nat} {ys:List Int}=>Vs (n:=n) (ys:=ys) h2
 have fq4:=fun {n:Nat} {ys:List Th}=>Xj2 (n:=n) (ys:=ys) h3 h4
 refine goS ?_
 clear fq1 fq2 fq3 fq4
 repeat' (refine Y9 (fun _=>?_) (fun _=>?_))
 all_goals (conv=>lhs;whnf)
 all_goals (refine okB ?_;obtain ⟨⟨_,_,_,_,_,_⟩,_,_,_,_,_,_,_⟩:=a;obtain ⟨⟨_,_,_,_,_,_⟩,_,_,_,_,_,_,_⟩:=b;simp_all <;> (intros;simp_all))
end Go.Proofs.YtbploohjimpcaaaGreat.A
