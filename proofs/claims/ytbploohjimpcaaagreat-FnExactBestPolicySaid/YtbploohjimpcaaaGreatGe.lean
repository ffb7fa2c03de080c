/- What the program's functions answer (Ge): no condition. -/
import Derived.Test.YtbploohjimpcaaaGreatGc
import Derived.Test.YtbploohjimpcaaaGreatGd
import Derived.Test.YtbploohjimpcaaaGreatGa
set_option linter.unusedVariables false
set_option linter.unusedSimpArgs false
namespace Go.Proofs.YtbploohjimpcaaaGreat.A
open Go Go.Abs
set_option maxRecDepth 100000
abbrev node2 (s:Sta) (i:Nat):Bool:=zeroB s.c (cl s (ncB s.c i 2))&&inB (cl s (ncB s.c i 0)) 0 99
def nodes2 (s:Sta):Bool:=(List.range s.c.cap.toNat).all (node2 s)
abbrev genOK (x:Int):Bool:=inB x 0 9998
def scalB (s:Sta):Bool:=inB (cl s 0) 1 s.c.cm&&(inB (cl s 1) 0 s.c.cap&&(inB s.steps 0 1000000&&(inB s.changes 0 1000000&&(inB s.retries 0 1000000&&inB s.faults 0 1000000))))
noncomputable def staS (s:Sta):Bool:=isCfB s.c&&(eqI s.cells.length (ccB s.c)&&(eqI s.gens.length s.c.cap&&(eqI s.ths.length s.c.th&&(s.gens.all genOK&&(s.ths.all (thB s.c)&&(headsB s&&(nodes2 s&&scalB s)))))))
theorem all_range {l:List Int} {p:Int→Bool}:l.all p=(List.range l.length).all fun i=>p (l.getD i default):=by
 rw [Bool.eq_iff_iff,List.all_eq_true,List.all_eq_true]
 constructor
 ·intro h i hi
  exact h _ (getD_mem (List.mem_range.1 hi))
 ·intro h x hx
  obtain ⟨i,hi,rfl⟩:=List.getElem_of_mem hx
  have:=h i (List.mem_range.2 hi)
  simpa [List.getD_eq_getElem?_getD,hi] using this
theorem all_and {l:List Nat} {p q:Nat→Bool}:(l.all p&&l.all q)=l.all fun i=>p i&&q i:=by
 induction l with
 | nil=>rfl
 | cons a l ih =>
   simp only [List.all_cons,←ih]
   cases p a <;> cases q a <;> simp
theorem staS_eq {s:Sta}:staS s=staB s:=by
 unfold staS staB
 by_cases hc:isCfB s.c=true
 ·by_cases n2:eqI s.gens.length s.c.cap=true
  ·have m2:(s.gens.length:Int)=s.c.cap:=of_decide_eq_true n2
   have e:(s.gens.all genOK&&nodes2 s)=nodesB s:=by
    unfold nodes2 nodesB
    have el:s.c.cap.toNat=s.gens.length:=by omega
    rw [all_range,el,all_and]
    congr 1
    funext i
    simp only [genOK,node2,nodeOK]
    cases zeroB s.c (cl s (ncB s.c i 2)) <;> simp
   rw [←e,hc,n2]
   unfold scalB
   generalize s.gens.all genOK=a1
   generalize nodes2 s=a2
   generalize s.ths.all (thB s.c)=a3
   generalize headsB s=a4
   generalize eqI s.cells.length (ccB s.c)=a5
   generalize eqI s.ths.length s.c.th=a6
   generalize inB (cl s 0) 1 s.c.cm=b1
   generalize inB (cl s 1) 0 s.c.cap=b2
   generalize inB s.steps 0 1000000=b3
   generalize inB s.changes 0 1000000=b4
   generalize inB s.retries 0 1000000=b5
   generalize inB s.faults 0 1000000=b6
   cases a1 <;> cases a2 <;> cases a3 <;> cases a4 <;> cases a5 <;> cases a6 <;> simp
  ·replace n2:eqI s.gens.length s.c.cap=false:=by simpa only [Bool.not_eq_true] using n2
   rw [n2];simp
 ·replace hc:isCfB s.c=false:=by simpa only [Bool.not_eq_true] using hc
  rw [hc];simp
set_option maxHeartbeats 8000000 in
theorem F_spec_IsState {n:Nat} {s:Sta} (hr:s.room) (hi:s.i64):callP cfg (n+6) 130 [.agg (staA s)]=some ⟨.bool (staB s),[]⟩:=by
 rw [callP_succ]
 rw [←staS_eq]
 by_cases hc:isCfB s.c=true
 ·skip
  by_cases n1:eqI s.cells.length (ccB s.c)=true
  ·skip
   have n1f:=(bne_f (by rw [List.length_map];exact of_decide_eq_true n1):(((s.cells.map iA).length:Int) !=ccB s.c)=false)
   by_cases n2:eqI s.gens.length s.c.cap=true
   ·skip
    have n2f:=(bne_f (by rw [List.length_map];exact of_decide_eq_true n2):(((s.gens.map iA).length:Int) !=s.c.cap)=false)
    by_cases n3:eqI s.ths.length s.c.th=true
    ·skip
     have n3f:=(bne_f (by rw [List.length_map];exact of_decide_eq_true n3):(((s.ths.map thA).length:Int) !=s.c.th)=false)
     have hb:=isCf_bd hc
     have m1:(s.cells.length:Int)=ccB s.c:=of_decide_eq_true n1
     have m2:(s.gens.length:Int)=s.c.cap:=of_decide_eq_true n2
     have m3:(s.ths.length:Int)=s.c.th:=of_decide_eq_true n3
     have hcc:ccB s.c=2+3*s.c.th+s.c.keys+3*s.c.cap:=by unfold ccB;rw [if_pos hc]
     have c0:(s.cells.map iA)[(0:Int).toNat]?=some (iA (cl s 0)):=cl_get (by omega)
     have c1:(s.cells.map iA)[(1:Int).toNat]?=some (iA (cl s 1)):=cl_get (by omega)
     have k0:decide ((0:Int)<((s.cells.map iA).length:Int))=true:=cl_lt (by omega)
     have k1:decide ((1:Int)<((s.cells.map iA).length:Int))=true:=cl_lt (by omega)
     have z0:decide ((0:Int)≤0)=true:=rfl
     have z1:decide ((0:Int)≤1)=true:=rfl
     have hS:staS s=(s.gens.all genOK&&(s.ths.all (thB s.c)&&(headsB s&&(nodes2 s&&scalB s)))):=by unfold staS;simp only [hc,n1,n2,n3,Bool.true_and]
     rw [hS]
     have fq1:=@F_spec_IsConfig
     have fq2:=@F_spec_CellCount
     have fq3:=@F_spec_l1In
     refine go ?_
     clear fq1 fq2 fq3
     refine (evLoop_run (fun e k=>e.set 3 (.int .i64 (k:Int))) (fun h _=>h) (fun k=>some ⟨.bool ((s.gens.drop k).all genOK&&(s.ths.all (thB s.c)&&(headsB s&&(nodes2 s&&scalB s)))),[]⟩) s.gens.length (by show _<18446744073709551616;omega) rfl ?_).trans rfl
     intro k f hk IH
     by_cases hlt:k<s.gens.length
     ·have e1:=lt_map (f:=iA) hlt
      have e2:=nonneg k
      have r1:=map_get (f:=iA) hlt
      have hw:=wrapS (k:=k) (by omega)
      rw [drop_cons hlt,List.all_cons]
      by_cases hv:genOK (s.gens.getD k default)=true
      ·skip
       have fq1:=@F_spec_l1In
       refine go ?_
       clear fq1
       try with_reducible rfl
       rw [hv,Bool.true_and]
       exact IH hlt _ _ (by rw [hw];rfl) rfl
      ·have hv':genOK (s.gens.getD k default)=false:=by simpa only [Bool.not_eq_true] using hv
       rw [hv']
       have fq1:=@F_spec_l1In
       refine go ?_
       clear fq1
       try with_reducible rfl
       rfl
     ·have e1:=nlt_map (f:=iA) (Nat.le_of_not_lt hlt)
      rw [List.drop_eq_nil_of_le (by omega),List.all_nil,Bool.true_and]
      clear IH
      refine go ?_
      refine (evLoop_run (fun e k=>e.set 4 (.int .i64 (k:Int))) (fun h _=>h) (fun k=>some ⟨.bool ((s.ths.drop k).all (thB s.c)&&(headsB s&&(nodes2 s&&scalB s))),[]⟩) s.ths.length (by show _<18446744073709551616;omega) rfl ?_).trans rfl
      clear hlt e1 hk
      intro k f hk IH
      by_cases hlt:k<s.ths.length
      ·have e1:=lt_map (f:=thA) hlt
       have e2:=nonneg k
       have r1:=map_get (f:=thA) hlt
       have hw:=wrapS (k:=k) (by omega)
       have hm1:=hr.2.2.2 _ (getD_mem hlt)
       have hm2:=hi.2 _ (getD_mem hlt)
       rw [drop_cons hlt,List.all_cons]
       by_cases hv:thB s.c (s.ths.getD k default)=true
       ·skip
        have fq1:=fun {n:Nat}=>F_spec_l8Thread (n:=n) hc hm1 hm2
        refine go ?_
        clear fq1
        try with_reducible rfl
        rw [hv,Bool.true_and]
        exact IH hlt _ _ (by rw [hw];rfl) rfl
       ·have hv':thB s.c (s.ths.getD k default)=false:=by simpa only [Bool.not_eq_true] using hv
        rw [hv']
        have fq1:=fun {n:Nat}=>F_spec_l8Thread (n:=n) hc hm1 hm2
        refine go ?_
        clear fq1
        try with_reducible rfl
        rfl
      ·have e1:=nlt_map (f:=thA) (Nat.le_of_not_lt hlt)
       rw [List.drop_eq_nil_of_le (by omega),List.all_nil,Bool.true_and]
       clear IH
       refine go ?_
       refine (evLoop_run (fun e k=>e.set 5 (.int .i64 (k:Int))) (fun h _=>h) (fun k=>some ⟨.bool (((List.range s.c.keys.toNat).drop k).all (headOK s)&&(nodes2 s&&scalB s)),[]⟩) s.c.keys.toNat (by show _<18446744073709551616;omega) rfl ?_).trans rfl
       clear hlt e1 hk
       intro k f hk IH
       by_cases hlt:k<s.c.keys.toNat
       ·have e1:decide ((k:Int)<s.c.keys)=true:=decide_eq_true (by omega)
        have hw:=wrapS (k:=k) (by omega)
        have hh:=head_in hc hlt
        rw [←m1] at hh
        have e2:decide (0≤headB s.c k)=true:=decide_eq_true hh.1
        have e3:=cl_lt hh
        have r1:=cl_get hh
        have hm:=hi.1 _ (cl_mem hh)
        have hk4:(0:Int)≤(k:Int)∧(k:Int)<4:=by omega
        rw [range_drop hlt,List.all_cons]
        by_cases v1:zeroB s.c (cl s (headB s.c k))=true
        ·by_cases v2:isMk (cl s (headB s.c k))=true
         ·have hv:headOK s k=false:=by unfold headOK;rw [←zero_lnk,v1,v2];rfl
          rw [hv]
          have fq1:=fun {n:Nat} {c:Cf}=>F_spec_HeadCell (n:=n) (c:=c) hk4
          have fq2:=fun {n:Nat} {c:Cf}=>F_spec_l8Zero (n:=n) (c:=c) hm
          have fq3:=fun {n:Nat}=>F_spec_IsMarked (n:=n) hm
          refine go ?_
          clear fq1 fq2 fq3
          try with_reducible rfl
          rfl
         ·replace v2:isMk (cl s (headB s.c k))=false:=by simpa only [Bool.not_eq_true] using v2
          have hv:headOK s k=true:=by unfold headOK;rw [←zero_lnk,v1,v2];rfl
          rw [hv,Bool.true_and]
          have fq1:=fun {n:Nat} {c:Cf}=>F_spec_HeadCell (n:=n) (c:=c) hk4
          have fq2:=fun {n:Nat} {c:Cf}=>F_spec_l8Zero (n:=n) (c:=c) hm
          have fq3:=fun {n:Nat}=>F_spec_IsMarked (n:=n) hm
          refine go ?_
          clear fq1 fq2 fq3
          try with_reducible rfl
          exact IH hlt _ _ (by rw [hw];rfl) rfl
        ·replace v1:zeroB s.c (cl s (headB s.c k))=false:=by simpa only [Bool.not_eq_true] using v1
         have hv:headOK s k=false:=by unfold headOK;rw [←zero_lnk,v1];rfl
         rw [hv]
         have fq1:=fun {n:Nat} {c:Cf}=>F_spec_HeadCell (n:=n) (c:=c) hk4
         have fq2:=fun {n:Nat} {c:Cf}=>F_spec_l8Zero (n:=n) (c:=c) hm
         refine go ?_
         clear fq1 fq2
         try with_reducible rfl
         rfl
       ·have e1:decide ((k:Int)<s.c.keys)=false:=decide_eq_false (by omega)
        rw [List.drop_eq_nil_of_le (by rw [List.length_range];omega),List.all_nil,Bool.true_and]
        clear IH
        refine go ?_
        refine (evLoop_run (fun e k=>e.set 7 (.int .i64 (k:Int))) (fun h _=>h) (fun k=>some ⟨.bool (((List.range s.c.cap.toNat).drop k).all (node2 s)&&scalB s),[]⟩) s.c.cap.toNat (by show _<18446744073709551616;omega) rfl ?_).trans rfl
        clear hlt e1 hk
        intro k f hk IH
        by_cases hlt:k<s.c.cap.toNat
        ·have e1:decide ((k:Int)<s.c.cap)=true:=decide_eq_true (by omega)
         have hw:=wrapS (k:=k) (by omega)
         have h0:=nc_in (f:=0) hc hlt (by omega)
         have h2:=nc_in (f:=2) hc hlt (by omega)
         rw [←m1] at h0 h2
         have e2:decide (0≤ncB s.c k 0)=true:=decide_eq_true h0.1
         have e3:=cl_lt h0
         have r0:=cl_get h0
         have e4:decide (0≤ncB s.c k 2)=true:=decide_eq_true h2.1
         have e5:=cl_lt h2
         have r2:=cl_get h2
         have hm2:=hi.1 _ (cl_mem h2)
         have hk4:(0:Int)≤(k:Int)∧(k:Int)<24:=by omega
         rw [range_drop hlt,List.all_cons]
         by_cases v3:zeroB s.c (cl s (ncB s.c k 2))=true
         ·by_cases v2:inB (cl s (ncB s.c k 0)) 0 99=true
          ·have hv:node2 s k=true:=by unfold node2;rw [v2,v3];rfl
           rw [hv,Bool.true_and]
           have fq1:=fun {n:Nat} {c:Cf}=>F_spec_NodeCell (n:=n) (c:=c) (f:=0) hk4 (by decide)
           have fq2:=fun {n:Nat} {c:Cf}=>F_spec_NodeCell (n:=n) (c:=c) (f:=2) hk4 (by decide)
           have fq3:=@F_spec_l1In
           have fq4:=fun {n:Nat} {c:Cf}=>F_spec_l8Zero (n:=n) (c:=c) hm2
           refine go ?_
           clear fq1 fq2 fq3 fq4
           try with_reducible rfl
           exact IH hlt _ _ (by rw [hw];rfl) rfl
          ·replace v2:inB (cl s (ncB s.c k 0)) 0 99=false:=by simpa only [Bool.not_eq_true] using v2
           have hv:node2 s k=false:=by unfold node2;rw [v3,v2];rfl
           rw [hv]
           have fq1:=fun {n:Nat} {c:Cf}=>F_spec_NodeCell (n:=n) (c:=c) (f:=0) hk4 (by decide)
           have fq2:=fun {n:Nat} {c:Cf}=>F_spec_NodeCell (n:=n) (c:=c) (f:=2) hk4 (by decide)
           have fq3:=@F_spec_l1In
           have fq4:=fun {n:Nat} {c:Cf}=>F_spec_l8Zero (n:=n) (c:=c) hm2
           refine go ?_
           clear fq1 fq2 fq3 fq4
           try with_reducible rfl
           rfl
         ·replace v3:zeroB s.c (cl s (ncB s.c k 2))=false:=by simpa only [Bool.not_eq_true] using v3
          have hv:node2 s k=false:=by unfold node2;rw [v3];rfl
          rw [hv]
          have fq1:=fun {n:Nat} {c:Cf}=>F_spec_NodeCell (n:=n) (c:=c) (f:=0) hk4 (by decide)
          have fq2:=fun {n:Nat} {c:Cf}=>F_spec_NodeCell (n:=n) (c:=c) (f:=2) hk4 (by decide)
          have fq3:=fun {n:Nat} {c:Cf}=>F_spec_l8Zero (n:=n) (c:=c) hm2
          refine go ?_
          clear fq1 fq2 fq3
          try with_reducible rfl
          rfl
        ·have e1:decide ((k:Int)<s.c.cap)=false:=decide_eq_false (by omega)
         rw [List.drop_eq_nil_of_le (by rw [List.length_range];omega),List.all_nil,Bool.true_and]
         clear IH
         have r9:=c0
         have r8:=c1
         have fq1:=@F_spec_l1In
         refine goS ?_
         clear r9 r8 fq1
         repeat' (refine bif_if (fun _=>?_) (fun _=>?_))
         all_goals (conv=>lhs;whnf)
         all_goals (refine okB ?_;clear hr hi;unfold scalB inB;first | (simp_all;done) | (simp_all;intros;omega) | (rw [Bool.eq_iff_iff];simp_all;done))
    ·replace n3:eqI s.ths.length s.c.th=false:=by simpa only [Bool.not_eq_true] using n3
     have n3f:=(bne_t (by rw [List.length_map];exact of_decide_eq_false n3):(((s.ths.map thA).length:Int) !=s.c.th)=true)
     have fq1:=@F_spec_IsConfig
     have fq2:=@F_spec_CellCount
     refine go ?_
     clear fq1 fq2
     try with_reducible rfl
     refine okB ?_
     unfold staS
     simp only [n3,Bool.false_and,Bool.and_false]
   ·replace n2:eqI s.gens.length s.c.cap=false:=by simpa only [Bool.not_eq_true] using n2
    have n2f:=(bne_t (by rw [List.length_map];exact of_decide_eq_false n2):(((s.gens.map iA).length:Int) !=s.c.cap)=true)
    have fq1:=@F_spec_IsConfig
    have fq2:=@F_spec_CellCount
    refine go ?_
    clear fq1 fq2
    try with_reducible rfl
    refine okB ?_
    unfold staS
    simp only [n2,Bool.false_and,Bool.and_false]
  ·replace n1:eqI s.cells.length (ccB s.c)=false:=by simpa only [Bool.not_eq_true] using n1
   have n1f:=(bne_t (by rw [List.length_map];exact of_decide_eq_false n1):(((s.cells.map iA).length:Int) !=ccB s.c)=true)
   have fq1:=@F_spec_IsConfig
   have fq2:=@F_spec_CellCount
   refine go ?_
   clear fq1 fq2
   try with_reducible rfl
   refine okB ?_
   unfold staS
   simp only [n1,Bool.false_and,Bool.and_false]
 ·replace hc:isCfB s.c=false:=by simpa only [Bool.not_eq_true] using hc
  have fq1:=@F_spec_IsConfig
  have fq2:=@F_spec_CellCount
  refine go ?_
  clear fq1 fq2
  try with_reducible rfl
  refine okB ?_
  unfold staS
  simp only [hc,Bool.false_and,Bool.and_false]
abbrev prvB (t:Th):Bool:=inB t.pc 32 42&&(t.node !=0)
theorem F_spec_l22Private {n:Nat} {t:Th}:callP cfg (n+2) 136 [.agg (thA t)]=some ⟨.bool (prvB t),[]⟩:=by
 rw [callP_succ]
 have fq1:=@F_spec_l1In
 refine goS ?_
 clear fq1
 repeat' (refine bif_if (fun _=>?_) (fun _=>?_))
 all_goals (conv=>lhs;whnf)
 all_goals (refine okB ?_;unfold prvB inB;first | (simp_all;done) | (rw [Bool.eq_iff_iff];simp_all;done) | (simp_all;intros;omega))
theorem F_impl_isPrivate {n:Nat} {t:Th}:callP cfg (n+2) 135 [.agg (thA t)]=some ⟨.bool (inB t.pc 32 42),[]⟩:=by
 rw [callP_succ]
 have fq1:=@F_impl_in
 refine go ?_
 clear fq1
 try with_reducible rfl
theorem F_spec_IsCurrent {n:Nat} {s:Sta} {h:Int} (hr:s.room) (hi:s.i64) (hh:I64 h):callP cfg (n+7) 200 [.agg (staA s),.int .i64 h]=some ⟨.bool (staB s&&curB s h),[]⟩:=by
 rw [callP_succ]
 unfold curB
 by_cases hs:staB s=true
 ·obtain ⟨hc,m1,m2,m3,_⟩:=sta_facts hs
  rw [hs,Bool.true_and]
  by_cases h1:isH h=true
  ·by_cases h2:idxB h<s.c.cap
   ·have hn:nodeB s.c h=true:=by unfold nodeB;rw [h1];exact decide_eq_true h2
    have e0:decide (idxB h<s.c.cap)=true:=decide_eq_true h2
    have hx:=idx_in hn
    have hg:(idxB h).toNat<s.gens.length:=by omega
    have e1:decide (0≤idxB h)=true:=decide_eq_true hx.1
    have e2:decide (idxB h<((s.gens.map iA).length:Int))=true:=by rw [List.length_map];exact decide_eq_true (by omega)
    have r1:=map_get (f:=iA) hg
    rw [hn,Bool.true_and]
    have fq1:=fun {n:Nat}=>F_spec_IsState (n:=n) hr hi
    have fq2:=fun {n:Nat}=>F_spec_IsHandle (n:=n) hh
    have fq3:=fun {n:Nat}=>F_spec_IndexOf (n:=n) hh
    have fq4:=fun {n:Nat}=>F_spec_GenerationOf (n:=n) hh
    refine go ?_
    clear fq1 fq2 fq3 fq4
    try with_reducible rfl
   ·have e0:decide (idxB h<s.c.cap)=false:=decide_eq_false h2
    have hn:nodeB s.c h=false:=by unfold nodeB;rw [h1,e0];rfl
    rw [hn]
    have fq1:=fun {n:Nat}=>F_spec_IsState (n:=n) hr hi
    have fq2:=fun {n:Nat}=>F_spec_IsHandle (n:=n) hh
    have fq3:=fun {n:Nat}=>F_spec_IndexOf (n:=n) hh
    refine go ?_
    clear fq1 fq2 fq3
    try with_reducible rfl
    rfl
  ·replace h1:isH h=false:=by simpa only [Bool.not_eq_true] using h1
   have hn:nodeB s.c h=false:=by unfold nodeB;rw [h1];rfl
   rw [hn]
   have fq1:=fun {n:Nat}=>F_spec_IsState (n:=n) hr hi
   have fq2:=fun {n:Nat}=>F_spec_IsHandle (n:=n) hh
   refine go ?_
   clear fq1 fq2
   try with_reducible rfl
   rfl
 ·replace hs:staB s=false:=by simpa only [Bool.not_eq_true] using hs
  rw [hs]
  have fq1:=fun {n:Nat}=>F_spec_IsState (n:=n) hr hi
  refine go ?_
  clear fq1
  try with_reducible rfl
  rfl
theorem F_spec_ArenaCell {n:Nat}:callP cfg (n+1) 282 []=some ⟨.int .i64 1,[]⟩:=by
 rw [callP_succ]
 refine go ?_
 try with_reducible rfl
theorem F_spec_NodesBorn {n:Nat} {s:Sta} (hr:s.room) (hi:s.i64):callP cfg (n+7) 205 [.agg (staA s)]=some ⟨.int .i64 (bornV s),[]⟩:=by
 rw [callP_succ]
 unfold bornV
 by_cases hs:staB s=true
 ·obtain ⟨hc,m1,m2,m3,_⟩:=sta_facts hs
  have hb:=isCf_bd hc
  have hcc:=cc_eq hc
  have c1:(s.cells.map iA)[(1:Int).toNat]?=some (iA (cl s 1)):=cl_get (by omega)
  have k1:decide ((1:Int)<((s.cells.map iA).length:Int))=true:=cl_lt (by omega)
  have z1:decide ((0:Int)≤1)=true:=rfl
  rw [if_pos hs]
  have r9:=c1
  have fq1:=fun {n:Nat}=>F_spec_IsState (n:=n) hr hi
  have fq2:=@F_spec_ArenaCell
  refine go ?_
  clear r9 fq1 fq2
  try with_reducible rfl
 ·replace hs:staB s=false:=by simpa only [Bool.not_eq_true] using hs
  rw [if_neg (by rw [hs];simp)]
  have fq1:=fun {n:Nat}=>F_spec_IsState (n:=n) hr hi
  refine go ?_
  clear fq1
  try with_reducible rfl
theorem F_spec_HeadOf {n:Nat} {s:Sta} {k:Int} (hr:s.room) (hi:s.i64) (hk:0≤k∧k<4):callP cfg (n+7) 199 [.agg (staA s),.int .i64 k]=some ⟨.int .i64 (headV s k),[]⟩:=by
 rw [callP_succ]
 unfold headV
 by_cases hs:staB s=true
 ·obtain ⟨hc,m1,m2,m3,_⟩:=sta_facts hs
  have hb:=isCf_bd hc
  have wk:IntKind.i64.wrap (s.c.keys - 1)=s.c.keys - 1:=wrapI (by omega) (by omega)
  by_cases hx:k≤s.c.keys - 1
  ·have e0:(decide (0≤k)&&decide (k≤IntKind.i64.wrap (s.c.keys - 1)))=true:=by rw [wk];simp;omega
   have hh:0≤headB s.c k∧headB s.c k<(s.cells.length:Int):=by
    rw [m1,cc_eq hc];unfold headB;rw [if_pos ⟨hc,hk.1,hx⟩];omega
   have e2:decide (0≤headB s.c k)=true:=decide_eq_true hh.1
   have e3:=cl_lt hh
   have r1:=cl_get hh
   rw [if_pos ⟨hs,hx⟩]
   have fq1:=fun {n:Nat}=>F_spec_IsState (n:=n) hr hi
   have fq2:=@F_spec_l1In
   have fq3:=fun {n:Nat} {c:Cf}=>F_spec_HeadCell (n:=n) (c:=c) hk
   refine go ?_
   clear fq1 fq2 fq3
   try with_reducible rfl
  ·have e0:(decide (0≤k)&&decide (k≤IntKind.i64.wrap (s.c.keys - 1)))=false:=by rw [wk];simp;omega
   rw [if_neg (fun h=>hx h.2)]
   have fq1:=fun {n:Nat}=>F_spec_IsState (n:=n) hr hi
   have fq2:=@F_spec_l1In
   refine go ?_
   clear fq1 fq2
   try with_reducible rfl
 ·replace hs:staB s=false:=by simpa only [Bool.not_eq_true] using hs
  rw [if_neg (fun h=>by rw [hs] at h;simp at h)]
  have fq1:=fun {n:Nat}=>F_spec_IsState (n:=n) hr hi
  refine go ?_
  clear fq1
  try with_reducible rfl
theorem fld_i64 {s:Sta} {h f:Int} (hs:staB s=true) (hi:s.i64) (hn:nodeB s.c h=true) (hf:0≤f∧f≤2):I64 (fldV s h f):=by
 obtain ⟨hc,m1,m2,m3,_⟩:=sta_facts hs
 have hh:=nc_in' hc (idx_in hn) hf
 rw [←m1] at hh
 exact hi.1 _ (cl_mem hh)
noncomputable def loadV (s:Sta) (h f:Int):Int:=if staB s=true∧curB s h=true then fldV s h f else 0
def walkL (s:Sta):Nat→Int→List Int
 | 0,_=>[]
 | n+1,h=>if curB s h=true then h::walkL s n (unmk (fldV s h 2)) else []
theorem okT2 {a a':Int} {c c':Bool} (h1:a=a') (h3:c=c'):some (⟨.tup [.int .i64 a,.bool c],[]⟩:Res)=some ⟨.tup [.int .i64 a',.bool c'],[]⟩:=by rw [h1,h3]
theorem cur_node {s:Sta} {h:Int} (hc:curB s h=true):nodeB s.c h=true:=by
 unfold curB at hc
 exact (Bool.and_eq_true_iff.1 hc).1
theorem F_spec_LoadField {n:Nat} {s:Sta} {h f:Int} (hr:s.room) (hi:s.i64) (hh:I64 h) (hf:0≤f∧f≤2):callP cfg (n+8) 201 [.agg (staA s),.int .i64 h,.int .i64 f]=some ⟨.tup [.int .i64 (loadV s h f),.bool (staB s&&curB s h)],[]⟩:=by
 rw [callP_succ]
 unfold loadV
 by_cases hs:(staB s&&curB s h)=true
 ·obtain ⟨ha,hcu⟩:=Bool.and_eq_true_iff.1 hs
  have hn:=cur_node hcu
  obtain ⟨hc,m1,m2,m3,_⟩:=sta_facts ha
  have hb:=isCf_bd hc
  have hx:=idx_in hn
  have hk:0≤idxB h∧idxB h<24:=by omega
  have hp:=nc_in' hc hx hf
  rw [←m1] at hp
  have e2:decide (0≤ncB s.c (idxB h) f)=true:=decide_eq_true hp.1
  have e3:=cl_lt hp
  have r1:=cl_get hp
  have e4:(decide (0≤f)&&decide (f≤2))=true:=by simp;omega
  rw [if_pos ⟨ha,hcu⟩]
  have fq1:=fun {n:Nat}=>F_spec_IsCurrent (n:=n) hr hi hh
  have fq2:=@F_spec_l1In
  have fq3:=fun {n:Nat}=>F_spec_IndexOf (n:=n) hh
  have fq4:=fun {n:Nat} {c:Cf}=>F_spec_NodeCell (n:=n) (c:=c) hk hf
  refine go ?_
  clear fq1 fq2 fq3 fq4
  try with_reducible rfl
  exact okT2 rfl hs.symm
 ·rw [if_neg (fun h=>hs (by rw [h.1,h.2];rfl))]
  replace hs:(staB s&&curB s h)=false:=by simpa only [Bool.not_eq_true] using hs
  have fq1:=fun {n:Nat}=>F_spec_IsCurrent (n:=n) hr hi hh
  refine go ?_
  clear fq1
  try with_reducible rfl
  exact okT2 rfl hs.symm
theorem F_impl_listOf {n:Nat} {s:Sta} {k:Nat} (hs:staB s=true) (hr:s.room) (hi:s.i64) (hk:k<s.c.keys.toNat):callP cfg (n+5) 126 [.pv (staA s),.int .i64 (k:Int)]=some ⟨intsA (walkL s s.c.cap.toNat (unmk (cl s (headB s.c k)))),[]⟩:=by
 rw [callP_succ]
 obtain ⟨hc,m1,m2,m3,_⟩:=sta_facts hs
 have hb:=isCf_bd hc
 have hk4:(0:Int)≤(k:Int)∧(k:Int)<4:=by omega
 have hp:=head_in hc hk
 rw [←m1] at hp
 have e2:decide (0≤headB s.c k)=true:=decide_eq_true hp.1
 have e3:=cl_lt hp
 have r1:=cl_get hp
 have hm:=hi.1 _ (cl_mem hp)
 have e4:decide (headB s.c k<0)=false:=decide_eq_false (by omega)
 have fq1:=fun {n:Nat} {c:Cf}=>F_impl_HeadCell (n:=n) (c:=c) hk4
 have fq2:=fun {n:Nat}=>F_impl_Unmarked (n:=n) hm
 refine go ?_
 clear fq1 fq2
 refine (evLoop_gen (fun e (x:List Int×Int)=>e.set 7 (.int .i64 x.2)) (fun h x=>h.set 3 (some ⟨false,false,false,1,x.1.map iA⟩)) (fun x=>some ⟨intsA (x.1++walkL s (s.c.cap.toNat - x.1.length) x.2),[]⟩) (fun x=>x.1.length≤s.c.cap.toNat∧I64 x.2) (fun x=>s.c.cap.toNat - x.1.length) ([],unmk (cl s (headB s.c k))) rfl ⟨Nat.zero_le _,unmk_i64 hm⟩ (by show _ - _<18446744073709551616;omega) ?_).trans rfl
 clear hp e2 e3 r1 hm e4
 rintro ⟨out,h⟩ f ⟨hk,hh⟩ IH
 simp only at hk hh ⊢
 by_cases hcu:curB s h=true
 ·have hn:=cur_node hcu
  by_cases hlt:out.length<s.c.cap.toNat
  ·have e1:decide (((out.map iA).length:Int)<s.c.cap)=true:=by rw [List.length_map];exact decide_eq_true (by omega)
   have e5:decide (((out.map iA).length+1)*8≤roomB)=true:=decide_eq_true (by rw [List.length_map];show _≤140737488355328;omega)
   have hx:=idx_in hn
   have hk2:0≤idxB h∧idxB h<24:=by omega
   have hp:=nc_in' (f:=2) hc hx (by omega)
   rw [←m1] at hp
   have e2:decide (0≤ncB s.c (idxB h) 2)=true:=decide_eq_true hp.1
   have e3:=cl_lt hp
   have r1:=cl_get hp
   have hm:I64 (fldV s h 2):=hi.1 _ (cl_mem hp)
   have hm2:I64 (cl s (ncB s.c (idxB h) 2)):=hm
   have hf2:(0:Int)≤2∧(2:Int)≤2:=by omega
   obtain ⟨d,hd⟩:∃ d,s.c.cap.toNat - out.length=d+1:=⟨s.c.cap.toNat - out.length - 1,by omega⟩
   have x1:=fun {x y:R}=>br_pos (x:=x) (y:=y) e5
   have fq1:=fun {n:Nat}=>F_impl_current (n:=n) hs hh
   have fq2:=fun {n:Nat}=>F_impl_IndexOf (n:=n) hh
   have fq3:=fun {n:Nat} {c:Cf}=>F_impl_NodeCell (n:=n) (c:=c) hk2 hf2
   have fq4:=fun {n:Nat}=>F_impl_Unmarked (n:=n) hm2
   refine go ?_
   clear x1 fq1 fq2 fq3 fq4
   try with_reducible rfl
   refine (IH (out++[h],unmk (fldV s h 2)) _ _ ⟨by show (out++[h]).length≤_;rw [List.length_append,List.length_singleton];omega,unmk_i64 hm⟩ (by show _ - (out++[h]).length<_ - out.length;rw [List.length_append,List.length_singleton];omega) rfl (by simp only [List.map_append,List.map_cons,List.map_nil];rfl)).trans ?_
   have hd':s.c.cap.toNat - (out++[h]).length=d:=by rw [List.length_append,List.length_singleton];omega
   show some (⟨intsA ((out++[h])++walkL s (s.c.cap.toNat - (out++[h]).length) (unmk (fldV s h 2))),[]⟩:Res)=_
   rw [hd',hd,walkL,if_pos hcu,List.append_assoc]
   rfl
  ·have e1:decide (((out.map iA).length:Int)<s.c.cap)=false:=by rw [List.length_map];exact decide_eq_false (by omega)
   have hd:s.c.cap.toNat - out.length=0:=by omega
   rw [hd,walkL,List.append_nil]
   have fq1:=fun {n:Nat}=>F_impl_current (n:=n) hs hh
   refine go ?_
   clear fq1
   try with_reducible rfl
 ·replace hcu:curB s h=false:=by simpa only [Bool.not_eq_true] using hcu
  have hw:walkL s (s.c.cap.toNat - out.length) h=[]:=by
   cases s.c.cap.toNat - out.length with
   | zero=>rfl
   | succ d=>rw [walkL,if_neg (by rw [hcu];simp)]
  rw [hw,List.append_nil]
  have fq1:=fun {n:Nat}=>F_impl_current (n:=n) hs hh
  refine go ?_
  clear fq1
  try with_reducible rfl
theorem unmk_lnk {c:Cf} {h:Int} (hl:lnkB c h=true):unmk h=h:=by
 unfold unmk
 rw [if_neg]
 intro hm
 unfold lnkB at hl
 rw [hm] at hl
 simp only [Bool.not_true,Bool.and_false,Bool.or_false,decide_eq_true_eq] at hl
 subst hl
 revert hm
 decide
theorem head_lnk {s:Sta} {k:Nat} (hs:staB s=true) (hk:k<s.c.keys.toNat):lnkB s.c (cl s (headB s.c k))=true:=by
 obtain ⟨_,_,_,_,_,h,_⟩:=sta_facts hs
 unfold headsB at h
 exact List.all_eq_true.1 h k (List.mem_range.2 hk)
theorem F_spec_ListOf {n:Nat} {s:Sta} {k:Nat} (hs:staB s=true) (hr:s.room) (hi:s.i64) (hk:k<s.c.keys.toNat):callP cfg (n+9) 131 [.agg (staA s),.int .i64 (k:Int)]=some ⟨intsA (walkL s s.c.cap.toNat (unmk (cl s (headB s.c k)))),[]⟩:=by
 rw [callP_succ]
 obtain ⟨hc,m1,m2,m3,_⟩:=sta_facts hs
 have hb:=isCf_bd hc
 have hk4:(0:Int)≤(k:Int)∧(k:Int)<4:=by omega
 have hp:=head_in hc hk
 rw [←m1] at hp
 have hm:=hi.1 _ (cl_mem hp)
 rw [unmk_lnk (head_lnk hs hk)]
 have hv:headV s k=cl s (headB s.c k):=by unfold headV;rw [if_pos ⟨hs,by omega⟩]
 have fq1:=fun {n:Nat}=>F_spec_HeadOf (n:=n) hr hi hk4
 refine go ?_
 clear fq1
 rw [hv]
 refine (evLoop_gen (fun e (x:List Int×Int)=>(e.set 6 (.int .i64 x.2)).set 7 (.int .i64 (x.1.length:Int))) (fun h x=>h.set 3 (some ⟨false,false,false,1,x.1.map iA⟩)) (fun x=>some ⟨intsA (x.1++walkL s (s.c.cap.toNat - x.1.length) x.2),[]⟩) (fun x=>x.1.length≤s.c.cap.toNat∧I64 x.2) (fun x=>s.c.cap.toNat - x.1.length) ([],cl s (headB s.c k)) rfl ⟨Nat.zero_le _,hm⟩ (by show _ - _<18446744073709551616;omega) ?_).trans rfl
 clear hp hm hv
 rintro ⟨out,h⟩ f ⟨hk,hh⟩ IH
 simp only at hk hh ⊢
 by_cases hlt:out.length<s.c.cap.toNat
 ·have e1:decide ((out.length:Int)<s.c.cap)=true:=decide_eq_true (by omega)
  by_cases hcu:curB s h=true
  ·have hn:=cur_node hcu
   have e0:(staB s&&curB s h)=true:=by rw [hs,hcu];rfl
   have e5:decide (((out.map iA).length+1)*8≤roomB)=true:=decide_eq_true (by rw [List.length_map];show _≤140737488355328;omega)
   have hw:=wrapS (k:=out.length) (by omega)
   have hl:loadV s h 2=fldV s h 2:=by unfold loadV;rw [if_pos ⟨hs,hcu⟩]
   have hm:I64 (fldV s h 2):=fld_i64 hs hi hn (by omega)
   have hm2:I64 (loadV s h 2):=by rw [hl];exact hm
   have hf2:(0:Int)≤2∧(2:Int)≤2:=by omega
   obtain ⟨d,hd⟩:∃ d,s.c.cap.toNat - out.length=d+1:=⟨s.c.cap.toNat - out.length - 1,by omega⟩
   have x1:=fun {x y:R}=>br_pos (x:=x) (y:=y) e5
   have fq1:=fun {n:Nat}=>F_spec_IsCurrent (n:=n) hr hi hh
   have fq2:=fun {n:Nat}=>F_spec_LoadField (n:=n) hr hi hh hf2
   have fq3:=fun {n:Nat}=>F_spec_Unmarked (n:=n) hm2
   refine go ?_
   clear x1 fq1 fq2 fq3
   try with_reducible rfl
   refine (IH (out++[h],unmk (fldV s h 2)) _ _ ⟨by show (out++[h]).length≤_;rw [List.length_append,List.length_singleton];omega,unmk_i64 hm⟩ (by show _ - (out++[h]).length<_ - out.length;rw [List.length_append,List.length_singleton];omega) (by simp only [List.length_append,List.length_singleton];rw [hw,hl];rfl) (by simp only [List.map_append,List.map_cons,List.map_nil];rfl)).trans ?_
   have hd':s.c.cap.toNat - (out++[h]).length=d:=by rw [List.length_append,List.length_singleton];omega
   show some (⟨intsA ((out++[h])++walkL s (s.c.cap.toNat - (out++[h]).length) (unmk (fldV s h 2))),[]⟩:Res)=_
   rw [hd',hd,walkL,if_pos hcu,List.append_assoc]
   rfl
  ·replace hcu:curB s h=false:=by simpa only [Bool.not_eq_true] using hcu
   have e0:(staB s&&curB s h)=false:=by rw [hs,hcu];rfl
   have hw:walkL s (s.c.cap.toNat - out.length) h=[]:=by
    cases s.c.cap.toNat - out.length with
    | zero=>rfl
    | succ d=>rw [walkL,if_neg (by rw [hcu];simp)]
   rw [hw,List.append_nil]
   have fq1:=fun {n:Nat}=>F_spec_IsCurrent (n:=n) hr hi hh
   refine go ?_
   clear fq1
   try with_reducible rfl
 ·have e1:decide ((out.length:Int)<s.c.cap)=false:=decide_eq_false (by omega)
  have hd:s.c.cap.toNat - out.length=0:=by omega
  rw [hd,walkL,List.append_nil]
  refine go ?_
  try with_reducible rfl
def listV (s:Sta) (k:Nat):List Int:=walkL s s.c.cap.toNat (unmk (cl s (headB s.c k)))
def linkedB (s:Sta) (i:Int):Bool:=(List.range s.c.keys.toNat).any fun k=>(listV s k).any fun h=>idxB h==i
theorem walk_len {s:Sta}:∀ (n:Nat) {h:Int},(walkL s n h).length≤n
 | 0,_=>Nat.le_refl _
 | n+1,h=>by
   rw [walkL]
   split
   ·rw [List.length_cons];have:=walk_len (s:=s) n (h:=unmk (fldV s h 2));omega
   ·exact Nat.zero_le _
theorem walk_i64 {s:Sta} (hs:staB s=true) (hi:s.i64):∀ (n:Nat) {h:Int},I64 h→∀ x∈walkL s n h,I64 x∧curB s x=true
 | 0,_,_,x,hx=>by cases hx
 | n+1,h,hh,x,hx=>by
   rw [walkL] at hx
   split at hx
   ·rename_i hc
    rcases List.mem_cons.1 hx with rfl | hx
    ·exact ⟨hh,hc⟩
    ·exact walk_i64 hs hi n (unmk_i64 (fld_i64 hs hi (cur_node hc) (by omega))) x hx
   ·cases hx
theorem list_i64 {s:Sta} {k:Nat} (hs:staB s=true) (hi:s.i64) (hk:k<s.c.keys.toNat):∀ x∈listV s k,I64 x∧curB s x=true:=by
 obtain ⟨hc,m1,_⟩:=sta_facts hs
 have hp:=head_in hc hk
 rw [←m1] at hp
 exact walk_i64 hs hi _ (unmk_i64 (hi.1 _ (cl_mem hp)))
theorem F_spec_l22Linked {n:Nat} {s:Sta} {i:Int} (hs:staB s=true) (hr:s.room) (hi:s.i64):callP cfg (n+10) 281 [.agg (staA s),.int .i64 i]=some ⟨.bool (linkedB s i),[]⟩:=by
 rw [callP_succ]
 obtain ⟨hc,m1,m2,m3,_⟩:=sta_facts hs
 have hb:=isCf_bd hc
 unfold linkedB
 refine go ?_
 refine (evLoop_run (fun e k=>e.set 5 (.int .i64 (k:Int))) (fun h _=>h) (fun k=>some ⟨.bool (((List.range s.c.keys.toNat).drop k).any fun k=>(listV s k).any fun h=>idxB h==i),[]⟩) s.c.keys.toNat (by show _<18446744073709551616;omega) rfl ?_).trans rfl
 intro k f hk IH
 by_cases hlt:k<s.c.keys.toNat
 ·have e1:decide ((k:Int)<s.c.keys)=true:=decide_eq_true (by omega)
  have hw:=wrapS (k:=k) (by omega)
  have hL:=walk_len (s:=s) s.c.cap.toNat (h:=unmk (cl s (headB s.c k)))
  rw [range_drop hlt,List.any_cons]
  have fq1:=fun {n:Nat}=>F_spec_ListOf (n:=n) hs hr hi hlt
  refine go ?_
  clear fq1
  refine (evLoop_run (fun e j=>e.set 7 (.int .i64 (j:Int))) (fun h _=>h) (fun j=>some ⟨.bool ((((listV s k).drop j).any fun h=>idxB h==i)||(((List.range s.c.keys.toNat).drop (k+1)).any fun k=>(listV s k).any fun h=>idxB h==i)),[]⟩) (listV s k).length (by show _<18446744073709551616;unfold listV;omega) rfl ?_).trans rfl
  intro j f' hj IH2
  by_cases hlj:j<(listV s k).length
  ·have d1:decide ((j:Int)<(((walkL s s.c.cap.toNat (unmk (cl s (headB s.c k)))).map iA).length:Int))=true:=lt_map (f:=iA) hlj
   have d2:=nonneg j
   have r1:((walkL s s.c.cap.toNat (unmk (cl s (headB s.c k)))).map iA)[j]?=some (iA ((listV s k).getD j default)):=map_get (f:=iA) hlj
   have hwj:=wrapS (k:=j) (by unfold listV at hlj;omega)
   have hm:=(list_i64 hs hi hlt _ (getD_mem hlj)).1
   rw [drop_cons hlj,List.any_cons]
   by_cases hv:(idxB ((listV s k).getD j default)==i)=true
   ·rw [hv]
    have fq1:=fun {n:Nat}=>F_spec_IndexOf (n:=n) hm
    refine go ?_
    clear fq1
    try with_reducible rfl
    rfl
   ·replace hv:(idxB ((listV s k).getD j default)==i)=false:=by simpa only [Bool.not_eq_true] using hv
    rw [hv,Bool.false_or]
    have fq1:=fun {n:Nat}=>F_spec_IndexOf (n:=n) hm
    refine go ?_
    clear fq1
    try with_reducible rfl
    exact IH2 hlj _ _ (by rw [hwj];rfl) rfl
  ·have d1:decide ((j:Int)<(((walkL s s.c.cap.toNat (unmk (cl s (headB s.c k)))).map iA).length:Int))=false:=nlt_map (f:=iA) (Nat.le_of_not_lt hlj)
   rw [List.drop_eq_nil_of_le (by omega),List.any_nil,Bool.false_or]
   refine go ?_
   try with_reducible rfl
   exact IH hlt _ _ (by rw [hw];rfl) rfl
 ·have e1:decide ((k:Int)<s.c.keys)=false:=decide_eq_false (by omega)
  rw [List.drop_eq_nil_of_le (by rw [List.length_range];omega),List.any_nil]
  refine go ?_
  try with_reducible rfl
abbrev NC:Type:=Int×Int
def hit (st:NC) (b:Bool) (c:Int):NC:=if b=true then (st.1+1,c) else st
def evF (i c:Int) (st:NC) (x:Int):NC:=hit st (x==i) c
def evH (i c:Int) (st:NC) (x:Int):NC:=hit st (idxB x==i) c
def evE (i c:Int) (st:NC) (e:Ent):NC:=hit st (idxB e.h==i) c
abbrev prvI (i:Int) (t:Th):Bool:=prvB t&&(idxB t.node==i)
def stepT (i:Int) (st:NC) (t:Th):NC:=hit (t.limbo.foldl (evH i 5) (t.free.foldl (evF i 1) st)) (prvI i t) 2
def stepW (i:Int) (st:NC) (t:Th):NC:=t.work.foldl (evE i 4) st
def finC (s:Sta) (i:Int) (st:NC):NC:=if linkedB s i=true then (st.1+1,3) else s.ths.foldl (stepW i) st
def cntV (s:Sta) (i:Int):NC:=finC s i (s.ths.foldl (stepT i) (0,0))
abbrev ncA (p:NC):AV:=.tup [.int .i64 p.1,.int .i64 p.2]
theorem hit_t {st:NC} {b:Bool} {c:Int} (h:b=true):hit st b c=(st.1+1,c):=by unfold hit;rw [if_pos h]
theorem hit_f {st:NC} {b:Bool} {c:Int} (h:b=false):hit st b c=st:=by unfold hit;rw [if_neg (by rw [h];simp)]
set_option maxHeartbeats 8000000 in
theorem F_spec_l22Count {n:Nat} {s:Sta} {i:Int} (hs:staB s=true) (hr:s.room) (hi:s.i64):callP cfg (n+11) 204 [.agg (staA s),.int .i64 i]=some ⟨ncA (cntV s i),[]⟩:=by
 rw [callP_succ]
 have hl:=hr.2.2.1
 unfold cntV
 refine go ?_
 refine (evLoop_gen (fun e (x:Nat×NC)=>((e.set 8 (.int .i64 (x.1:Int))).set 6 (.int .i64 x.2.1)).set 7 (.int .i64 x.2.2)) (fun h _=>h) (fun x=>some ⟨ncA (finC s i ((s.ths.drop x.1).foldl (stepT i) x.2)),[]⟩) (fun x=>x.1≤s.ths.length∧0≤x.2.1∧x.2.1≤2097153*(x.1:Int)) (fun x=>s.ths.length - x.1) (0,(0,0)) rfl ⟨Nat.zero_le _,by decide,by decide⟩ (by show _ - _<18446744073709551616;omega) ?_).trans rfl
 rintro ⟨k,st⟩ f ⟨hk,h0,h1⟩ IH
 simp only at hk h0 h1 ⊢
 by_cases hlt:k<s.ths.length
 ·have e1:=lt_map (f:=thA) hlt
  have e2:=nonneg k
  have r1:=map_get (f:=thA) hlt
  have hw:=wrapS (k:=k) (by omega)
  obtain ⟨g1,g2,g3,g4,g5⟩:=hr.2.2.2 _ (getD_mem hlt)
  obtain ⟨hnode,_,_,_,_,_,hlim⟩:=hi.2 _ (getD_mem hlt)
  rw [drop_cons hlt,List.foldl_cons]
  unfold stepT
  refine go ?_
  refine (evLoop_gen (fun e (x:Nat×NC)=>((e.set 10 (.int .i64 (x.1:Int))).set 6 (.int .i64 x.2.1)).set 7 (.int .i64 x.2.2)) (fun h _=>h) (fun x=>some ⟨ncA (finC s i ((s.ths.drop (k+1)).foldl (stepT i) (hit ((s.ths.getD k default).limbo.foldl (evH i 5) (((s.ths.getD k default).free.drop x.1).foldl (evF i 1) x.2)) (prvI i (s.ths.getD k default)) 2))),[]⟩) (fun x=>x.1≤(s.ths.getD k default).free.length∧0≤x.2.1∧x.2.1≤2097153*(k:Int)+(x.1:Int)) (fun x=>(s.ths.getD k default).free.length - x.1) (0,st) rfl ⟨Nat.zero_le _,h0,by show st.1≤2097153*(k:Int)+((0:Nat):Int);omega⟩ (by show _ - _<18446744073709551616;omega) ?_).trans rfl
  clear h0 h1
  rintro ⟨j,st⟩ f' ⟨hj,h0,h1⟩ IH2
  simp only at hj h0 h1 ⊢
  by_cases hlj:j<(s.ths.getD k default).free.length
  ·have d1:=lt_map (f:=iA) hlj
   have d2:=nonneg j
   have q1:=map_get (f:=iA) hlj
   have hwj:=wrapS (k:=j) (by omega)
   have hws:IntKind.i64.wrap (st.1+1)=st.1+1:=wrapI (by omega) (by omega)
   rw [drop_cons hlj,List.foldl_cons]
   skip
   by_cases hv:(((s.ths.getD k default).free.getD j default)==i)=true
   ·have hh:evF i 1 st ((s.ths.getD k default).free.getD j default)=(st.1+1,1):=hit_t hv
    rw [hh]
    have r9:=q1
    refine go ?_
    clear r9
    try with_reducible rfl
    exact IH2 (j+1,(st.1+1,1)) _ _ ⟨hlj,by show 0≤st.1+1;omega,by show st.1+1≤2097153*(k:Int)+((j+1:Nat):Int);omega⟩ (by show _ - _<_ - _;omega) (by rw [hwj,hws];rfl) rfl
   ·replace hv:(((s.ths.getD k default).free.getD j default)==i)=false:=by simpa only [Bool.not_eq_true] using hv
    have hh:evF i 1 st ((s.ths.getD k default).free.getD j default)=st:=hit_f hv
    rw [hh]
    have r9:=q1
    refine go ?_
    clear r9
    try with_reducible rfl
    exact IH2 (j+1,st) _ _ ⟨hlj,h0,by show st.1≤2097153*(k:Int)+((j+1:Nat):Int);omega⟩ (by show _ - _<_ - _;omega) (by rw [hwj];rfl) rfl
  ·have d1:=nlt_map (f:=iA) (Nat.le_of_not_lt hlj)
   rw [List.drop_eq_nil_of_le (by omega),List.foldl_nil]
   have hj1:(j:Int)≤1048576:=by omega
   clear IH2
   refine go ?_
   refine (evLoop_gen (fun e (x:Nat×NC)=>((e.set 11 (.int .i64 (x.1:Int))).set 6 (.int .i64 x.2.1)).set 7 (.int .i64 x.2.2)) (fun h _=>h) (fun x=>some ⟨ncA (finC s i ((s.ths.drop (k+1)).foldl (stepT i) (hit (((s.ths.getD k default).limbo.drop x.1).foldl (evH i 5) x.2) (prvI i (s.ths.getD k default)) 2))),[]⟩) (fun x=>x.1≤(s.ths.getD k default).limbo.length∧0≤x.2.1∧x.2.1≤2097153*(k:Int)+1048576+(x.1:Int)) (fun x=>(s.ths.getD k default).limbo.length - x.1) (0,st) rfl ⟨Nat.zero_le _,h0,by show st.1≤2097153*(k:Int)+1048576+((0:Nat):Int);omega⟩ (by show _ - _<18446744073709551616;omega) ?_).trans rfl
   clear h0 h1
   rintro ⟨j,st⟩ f' ⟨hj,h0,h1⟩ IH2
   simp only at hj h0 h1 ⊢
   by_cases hlj:j<(s.ths.getD k default).limbo.length
   ·have d1:=lt_map (f:=iA) hlj
    have d2:=nonneg j
    have q1:=map_get (f:=iA) hlj
    have hwj:=wrapS (k:=j) (by omega)
    have hws:IntKind.i64.wrap (st.1+1)=st.1+1:=wrapI (by omega) (by omega)
    rw [drop_cons hlj,List.foldl_cons]
    have hm:=hlim _ (getD_mem hlj)
    by_cases hv:(idxB ((s.ths.getD k default).limbo.getD j default)==i)=true
    ·have hh:evH i 5 st ((s.ths.getD k default).limbo.getD j default)=(st.1+1,5):=hit_t hv
     rw [hh]
     have r9:=q1
     have fq1:=fun {n:Nat}=>F_spec_IndexOf (n:=n) hm
     refine go ?_
     clear r9 fq1
     try with_reducible rfl
     exact IH2 (j+1,(st.1+1,5)) _ _ ⟨hlj,by show 0≤st.1+1;omega,by show st.1+1≤2097153*(k:Int)+1048576+((j+1:Nat):Int);omega⟩ (by show _ - _<_ - _;omega) (by rw [hwj,hws];rfl) rfl
    ·replace hv:(idxB ((s.ths.getD k default).limbo.getD j default)==i)=false:=by simpa only [Bool.not_eq_true] using hv
     have hh:evH i 5 st ((s.ths.getD k default).limbo.getD j default)=st:=hit_f hv
     rw [hh]
     have r9:=q1
     have fq1:=fun {n:Nat}=>F_spec_IndexOf (n:=n) hm
     refine go ?_
     clear r9 fq1
     try with_reducible rfl
     exact IH2 (j+1,st) _ _ ⟨hlj,h0,by show st.1≤2097153*(k:Int)+1048576+((j+1:Nat):Int);omega⟩ (by show _ - _<_ - _;omega) (by rw [hwj];rfl) rfl
   ·have d1:=nlt_map (f:=iA) (Nat.le_of_not_lt hlj)
    rw [List.drop_eq_nil_of_le (by omega),List.foldl_nil]
    have hj1:(j:Int)≤1048576:=by omega
    clear IH2
    have hws:IntKind.i64.wrap (st.1+1)=st.1+1:=wrapI (by omega) (by omega)
    by_cases v1:prvB (s.ths.getD k default)=true
    ·by_cases v2:(idxB (s.ths.getD k default).node==i)=true
     ·have hh:hit st (prvI i (s.ths.getD k default)) 2=(st.1+1,2):=hit_t (by unfold prvI;rw [v1,v2];rfl)
      rw [hh]
      have fq1:=@F_spec_l22Private
      have fq2:=fun {n:Nat}=>F_spec_IndexOf (n:=n) hnode
      refine go ?_
      clear fq1 fq2
      try with_reducible rfl
      exact IH (k+1,(st.1+1,2)) _ _ ⟨hlt,by show 0≤st.1+1;omega,by show st.1+1≤2097153*((k+1:Nat):Int);omega⟩ (by show _ - _<_ - _;omega) (by rw [hw,hws];rfl) rfl
     ·replace v2:(idxB (s.ths.getD k default).node==i)=false:=by simpa only [Bool.not_eq_true] using v2
      have hh:hit st (prvI i (s.ths.getD k default)) 2=st:=hit_f (by unfold prvI;rw [v1,v2];rfl)
      rw [hh]
      have fq1:=@F_spec_l22Private
      have fq2:=fun {n:Nat}=>F_spec_IndexOf (n:=n) hnode
      refine go ?_
      clear fq1 fq2
      try with_reducible rfl
      exact IH (k+1,st) _ _ ⟨hlt,h0,by show st.1≤2097153*((k+1:Nat):Int);omega⟩ (by show _ - _<_ - _;omega) (by rw [hw];rfl) rfl
    ·replace v1:prvB (s.ths.getD k default)=false:=by simpa only [Bool.not_eq_true] using v1
     have hh:hit st (prvI i (s.ths.getD k default)) 2=st:=hit_f (by unfold prvI;rw [v1];rfl)
     rw [hh]
     have fq1:=@F_spec_l22Private
     refine go ?_
     clear fq1
     try with_reducible rfl
     exact IH (k+1,st) _ _ ⟨hlt,h0,by show st.1≤2097153*((k+1:Nat):Int);omega⟩ (by show _ - _<_ - _;omega) (by rw [hw];rfl) rfl
 ·have e1:=nlt_map (f:=thA) (Nat.le_of_not_lt hlt)
  rw [List.drop_eq_nil_of_le (by omega),List.foldl_nil]
  have hk1:(k:Int)≤1048576:=by omega
  have hws:IntKind.i64.wrap (st.1+1)=st.1+1:=wrapI (by omega) (by omega)
  have hb0:st.1≤2199024304128:=by omega
  clear IH hlt hk h1 hk1
  unfold finC
  by_cases hL:linkedB s i=true
  ·rw [if_pos hL]
   have fq1:=fun {n:Nat} {i:Int}=>F_spec_l22Linked (n:=n) (i:=i) hs hr hi
   refine go ?_
   clear fq1
   try with_reducible rfl
   rw [hws]
  ·rw [if_neg hL]
   replace hL:linkedB s i=false:=by simpa only [Bool.not_eq_true] using hL
   have fq1:=fun {n:Nat} {i:Int}=>F_spec_l22Linked (n:=n) (i:=i) hs hr hi
   refine go ?_
   clear fq1
   refine (evLoop_gen (fun e (x:Nat×NC)=>((e.set 12 (.int .i64 (x.1:Int))).set 6 (.int .i64 x.2.1)).set 7 (.int .i64 x.2.2)) (fun h _=>h) (fun x=>some ⟨ncA ((s.ths.drop x.1).foldl (stepW i) x.2),[]⟩) (fun x=>x.1≤s.ths.length∧0≤x.2.1∧x.2.1≤2199024304128+1048576*(x.1:Int)) (fun x=>s.ths.length - x.1) (0,st) rfl ⟨Nat.zero_le _,h0,by show st.1≤2199024304128+1048576*((0:Nat):Int);omega⟩ (by show _ - _<18446744073709551616;omega) ?_).trans rfl
   clear h0 hb0 hws e1
   rintro ⟨k,st⟩ f ⟨hk,h0,h1⟩ IH
   simp only at hk h0 h1 ⊢
   by_cases hlt:k<s.ths.length
   ·have e1:=lt_map (f:=thA) hlt
    have e2:=nonneg k
    have r1:=map_get (f:=thA) hlt
    have hw:=wrapS (k:=k) (by omega)
    obtain ⟨g1,g2,g3,g4,g5⟩:=hr.2.2.2 _ (getD_mem hlt)
    obtain ⟨_,_,_,_,_,hwork,_⟩:=hi.2 _ (getD_mem hlt)
    rw [drop_cons hlt,List.foldl_cons]
    unfold stepW
    refine go ?_
    refine (evLoop_gen (fun e (x:Nat×NC)=>((e.set 14 (.int .i64 (x.1:Int))).set 6 (.int .i64 x.2.1)).set 7 (.int .i64 x.2.2)) (fun h _=>h) (fun x=>some ⟨ncA (((s.ths.drop (k+1)).foldl (stepW i) (((s.ths.getD k default).work.drop x.1).foldl (evE i 4) x.2))),[]⟩) (fun x=>x.1≤(s.ths.getD k default).work.length∧0≤x.2.1∧x.2.1≤2199024304128+1048576*(k:Int)+(x.1:Int)) (fun x=>(s.ths.getD k default).work.length - x.1) (0,st) rfl ⟨Nat.zero_le _,h0,by show st.1≤2199024304128+1048576*(k:Int)+((0:Nat):Int);omega⟩ (by show _ - _<18446744073709551616;omega) ?_).trans rfl
    clear h0 h1
    rintro ⟨j,st⟩ f' ⟨hj,h0,h1⟩ IH2
    simp only at hj h0 h1 ⊢
    by_cases hlj:j<(s.ths.getD k default).work.length
    ·have d1:=lt_map (f:=entA) hlj
     have d2:=nonneg j
     have q1:=map_get (f:=entA) hlj
     have hwj:=wrapS (k:=j) (by omega)
     have hws:IntKind.i64.wrap (st.1+1)=st.1+1:=wrapI (by omega) (by omega)
     rw [drop_cons hlj,List.foldl_cons]
     have hm:=hwork _ (getD_mem hlj)
     by_cases hv:(idxB ((s.ths.getD k default).work.getD j default).h==i)=true
     ·have hh:evE i 4 st ((s.ths.getD k default).work.getD j default)=(st.1+1,4):=hit_t hv
      rw [hh]
      have r9:=q1
      have fq1:=fun {n:Nat}=>F_spec_IndexOf (n:=n) hm
      refine go ?_
      clear r9 fq1
      try with_reducible rfl
      exact IH2 (j+1,(st.1+1,4)) _ _ ⟨hlj,by show 0≤st.1+1;omega,by show st.1+1≤2199024304128+1048576*(k:Int)+((j+1:Nat):Int);omega⟩ (by show _ - _<_ - _;omega) (by rw [hwj,hws];rfl) rfl
     ·replace hv:(idxB ((s.ths.getD k default).work.getD j default).h==i)=false:=by simpa only [Bool.not_eq_true] using hv
      have hh:evE i 4 st ((s.ths.getD k default).work.getD j default)=st:=hit_f hv
      rw [hh]
      have r9:=q1
      have fq1:=fun {n:Nat}=>F_spec_IndexOf (n:=n) hm
      refine go ?_
      clear r9 fq1
      try with_reducible rfl
      exact IH2 (j+1,st) _ _ ⟨hlj,h0,by show st.1≤2199024304128+1048576*(k:Int)+((j+1:Nat):Int);omega⟩ (by show _ - _<_ - _;omega) (by rw [hwj];rfl) rfl
    ·have d1:=nlt_map (f:=entA) (Nat.le_of_not_lt hlj)
     rw [List.drop_eq_nil_of_le (by omega),List.foldl_nil]
     have hj1:(j:Int)≤1048576:=by omega
     clear IH2
     refine go ?_
     exact IH (k+1,st) _ _ ⟨hlt,h0,by show st.1≤2199024304128+1048576*((k+1:Nat):Int);omega⟩ (by show _ - _<_ - _;omega) (by rw [hw];rfl) rfl
   ·have e1:=nlt_map (f:=thA) (Nat.le_of_not_lt hlt)
    rw [List.drop_eq_nil_of_le (by omega),List.foldl_nil]
    refine go ?_
    try with_reducible rfl
def clsS (s:Sta) (i:Int):Int:=if i≥cl s 1 then (if (cntV s i).1=0 then 0 else 6) else if (cntV s i).1=1 then (cntV s i).2 else 6
noncomputable def clsV (s:Sta) (i:Int):Int:=if staB s=true∧0≤i∧i≤s.c.cap - 1 then clsS s i else 6
theorem F_spec_ClassOf {n:Nat} {s:Sta} {i:Int} (hr:s.room) (hi:s.i64):callP cfg (n+12) 134 [.agg (staA s),.int .i64 i]=some ⟨.int .i64 (clsV s i),[]⟩:=by
 rw [callP_succ]
 unfold clsV
 by_cases hs:staB s=true
 ·obtain ⟨hc,m1,m2,m3,_⟩:=sta_facts hs
  have hb:=isCf_bd hc
  have wk:IntKind.i64.wrap (s.c.cap - 1)=s.c.cap - 1:=wrapI (by omega) (by omega)
  have hbv:bornV s=cl s 1:=by unfold bornV;rw [if_pos hs]
  by_cases hx:0≤i∧i≤s.c.cap - 1
  ·have e0:(decide (0≤i)&&decide (i≤IntKind.i64.wrap (s.c.cap - 1)))=true:=by rw [wk];simp;omega
   rw [if_pos ⟨hs,hx⟩]
   unfold clsS
   by_cases hy:i≥cl s 1
   ·have e1:decide (i≥bornV s)=true:=by rw [hbv];exact decide_eq_true hy
    rw [if_pos hy]
    by_cases hz:(cntV s i).1=0
    ·have e2:((cntV s i).1==0)=true:=beq_t hz
     rw [if_pos hz]
     have fq1:=fun {n:Nat}=>F_spec_IsState (n:=n) hr hi
     have fq2:=@F_spec_l1In
     have fq3:=fun {n:Nat}=>F_spec_NodesBorn (n:=n) hr hi
     have fq4:=fun {n:Nat} {i:Int}=>F_spec_l22Count (n:=n) (i:=i) hs hr hi
     refine go ?_
     clear fq1 fq2 fq3 fq4
     try with_reducible rfl
    ·have e2:((cntV s i).1==0)=false:=beq_f hz
     rw [if_neg hz]
     have fq1:=fun {n:Nat}=>F_spec_IsState (n:=n) hr hi
     have fq2:=@F_spec_l1In
     have fq3:=fun {n:Nat}=>F_spec_NodesBorn (n:=n) hr hi
     have fq4:=fun {n:Nat} {i:Int}=>F_spec_l22Count (n:=n) (i:=i) hs hr hi
     refine go ?_
     clear fq1 fq2 fq3 fq4
     try with_reducible rfl
   ·have e1:decide (i≥bornV s)=false:=by rw [hbv];exact decide_eq_false hy
    rw [if_neg hy]
    by_cases hz:(cntV s i).1=1
    ·have e2:((cntV s i).1 !=1)=false:=bne_f hz
     rw [if_pos hz]
     have fq1:=fun {n:Nat}=>F_spec_IsState (n:=n) hr hi
     have fq2:=@F_spec_l1In
     have fq3:=fun {n:Nat}=>F_spec_NodesBorn (n:=n) hr hi
     have fq4:=fun {n:Nat} {i:Int}=>F_spec_l22Count (n:=n) (i:=i) hs hr hi
     refine go ?_
     clear fq1 fq2 fq3 fq4
     try with_reducible rfl
    ·have e2:((cntV s i).1 !=1)=true:=bne_t hz
     rw [if_neg hz]
     have fq1:=fun {n:Nat}=>F_spec_IsState (n:=n) hr hi
     have fq2:=@F_spec_l1In
     have fq3:=fun {n:Nat}=>F_spec_NodesBorn (n:=n) hr hi
     have fq4:=fun {n:Nat} {i:Int}=>F_spec_l22Count (n:=n) (i:=i) hs hr hi
     refine go ?_
     clear fq1 fq2 fq3 fq4
     try with_reducible rfl
  ·have e0:(decide (0≤i)&&decide (i≤IntKind.i64.wrap (s.c.cap - 1)))=false:=by rw [wk];simp;omega
   rw [if_neg (fun h=>hx h.2)]
   have fq1:=fun {n:Nat}=>F_spec_IsState (n:=n) hr hi
   have fq2:=@F_spec_l1In
   have fq3:=fun {n:Nat}=>F_spec_NodesBorn (n:=n) hr hi
   refine go ?_
   clear fq1 fq2 fq3
   try with_reducible rfl
 ·replace hs:staB s=false:=by simpa only [Bool.not_eq_true] using hs
  rw [if_neg (fun h=>by rw [hs] at h;simp at h)]
  have fq1:=fun {n:Nat}=>F_spec_IsState (n:=n) hr hi
  have fq2:=@F_spec_l1In
  have fq3:=fun {n:Nat}=>F_spec_NodesBorn (n:=n) hr hi
  refine go ?_
  clear fq1 fq2 fq3
  try with_reducible rfl
def cntN (p:Nat→Bool):List Nat→Int
 | []=>0
 | i::l=>(if p i=true then 1 else 0)+cntN p l
noncomputable def ccV (s:Sta) (c:Int):Int:=if staB s=true then cntN (fun i=>clsV s i==c) (List.range s.c.cap.toNat) else 0
noncomputable def alV (s:Sta):Int:=if staB s=true then cntN (fun i=>(clsV s i !=0)&&(clsV s i !=1)) (List.range s.c.cap.toNat) else 0
theorem F_spec_Allocated {n:Nat} {s:Sta} (hr:s.room) (hi:s.i64):callP cfg (n+13) 61 [.agg (staA s)]=some ⟨.int .i64 (alV s),[]⟩:=by
 rw [callP_succ]
 unfold alV
 by_cases hs:staB s=true
 ·rw [if_pos hs]
  have hc:=(sta_facts hs).1
  have hb:=isCf_bd hc
  refine go ?_
  refine (evLoop_gen (fun e (x:Nat×Int)=>(e.set 4 (.int .i64 (x.1:Int))).set 3 (.int .i64 x.2)) (fun h _=>h) (fun x=>some ⟨.int .i64 (x.2+cntN (fun i=>(clsV s i !=0)&&(clsV s i !=1)) ((List.range s.c.cap.toNat).drop x.1)),[]⟩) (fun x=>x.1≤s.c.cap.toNat∧0≤x.2∧x.2≤x.1) (fun x=>s.c.cap.toNat - x.1) (0,0) rfl ⟨Nat.zero_le _,by decide,by decide⟩ (by show _ - _<18446744073709551616;omega) ?_).trans (okI (Int.zero_add _))
  rintro ⟨k,m⟩ f ⟨hk,h0,h1⟩ IH
  simp only at hk h0 h1 ⊢
  by_cases hlt:k<s.c.cap.toNat
  ·have e1:decide ((k:Int)<s.c.cap)=true:=decide_eq_true (by omega)
   have hw:=wrapS (k:=k) (by omega)
   have hwm:IntKind.i64.wrap (m+1)=m+1:=wrapI (by omega) (by omega)
   rw [range_drop hlt,cntN]
   by_cases v:(clsV s k !=0)=true
   ·by_cases v2:(clsV s k !=1)=true
    ·rw [if_pos (by rw [v,v2];rfl)]
     have fq1:=fun {n:Nat}=>F_spec_IsState (n:=n) hr hi
     have fq2:=fun {n:Nat} {i:Int}=>F_spec_ClassOf (n:=n) (i:=i) hr hi
     refine go ?_
     clear fq1 fq2
     try with_reducible rfl
     exact ((IH (k+1,m+1) _ _ ⟨hlt,by show 0≤m+1;omega,by show m+1≤((k+1:Nat):Int);omega⟩ (by show _ - _<_ - _;omega) (by rw [hw,hwm];rfl) rfl).trans (okI (Int.add_assoc m 1 _)))
    ·rw [if_neg (fun h=>v2 (Bool.and_eq_true_iff.1 h).2)]
     replace v2:(clsV s k !=1)=false:=by simpa only [Bool.not_eq_true] using v2
     have fq1:=fun {n:Nat}=>F_spec_IsState (n:=n) hr hi
     have fq2:=fun {n:Nat} {i:Int}=>F_spec_ClassOf (n:=n) (i:=i) hr hi
     refine go ?_
     clear fq1 fq2
     try with_reducible rfl
     exact ((IH (k+1,m) _ _ ⟨hlt,h0,by show m≤((k+1:Nat):Int);omega⟩ (by show _ - _<_ - _;omega) (by rw [hw];rfl) rfl).trans (okI (congrArg (m+·) (Int.zero_add _)).symm))
   ·rw [if_neg (fun h=>v (Bool.and_eq_true_iff.1 h).1)]
    replace v:(clsV s k !=0)=false:=by simpa only [Bool.not_eq_true] using v
    have fq1:=fun {n:Nat}=>F_spec_IsState (n:=n) hr hi
    have fq2:=fun {n:Nat} {i:Int}=>F_spec_ClassOf (n:=n) (i:=i) hr hi
    refine go ?_
    clear fq1 fq2
    try with_reducible rfl
    exact ((IH (k+1,m) _ _ ⟨hlt,h0,by show m≤((k+1:Nat):Int);omega⟩ (by show _ - _<_ - _;omega) (by rw [hw];rfl) rfl).trans (okI (congrArg (m+·) (Int.zero_add _)).symm))
  ·have e1:decide ((k:Int)<s.c.cap)=false:=decide_eq_false (by omega)
   rw [List.drop_eq_nil_of_le (by rw [List.length_range];omega)]
   refine go ?_
   try with_reducible rfl
   exact okI (Int.add_zero m).symm
 ·replace hs:staB s=false:=by simpa only [Bool.not_eq_true] using hs
  rw [if_neg (by rw [hs];simp)]
  refine go ?_
  refine (evLoop_run (fun e k=>(e.set 4 (.int .i64 (k:Int))).set 3 (.int .i64 0)) (fun h _=>h) (fun _=>some ⟨.int .i64 0,[]⟩) 0 (by decide) rfl ?_).trans rfl
  intro k f hk IH
  obtain rfl:k=0:=by omega
  clear IH hk
  by_cases hlt:(0:Int)<s.c.cap
  ·have e1:decide (((0:Nat):Int)<s.c.cap)=true:=decide_eq_true hlt
   have fq1:=fun {n:Nat}=>F_spec_IsState (n:=n) hr hi
   refine go ?_
   clear fq1
   try with_reducible rfl
  ·have e1:decide (((0:Nat):Int)<s.c.cap)=false:=decide_eq_false hlt
   refine go ?_
   try with_reducible rfl
end Go.Proofs.YtbploohjimpcaaaGreat.A
