/- What the program's functions answer (Gd): no condition. -/
import Derived.Test.YtbploohjimpcaaaGreatGb
set_option linter.unusedVariables false
set_option linter.unusedSimpArgs false
namespace Go.Proofs.YtbploohjimpcaaaGreat.A
open Go Go.Abs
set_option maxRecDepth 100000
def cl (s:Sta) (i:Int):Int:=s.cells.getD i.toNat default
def eqI (n:Nat) (x:Int):Bool:=decide ((n:Int)=x)
abbrev headOK (s:Sta) (k:Nat):Bool:=lnkB s.c (cl s (headB s.c k))
abbrev nodeOK (s:Sta) (i:Nat):Bool:=inB (s.gens.getD i default) 0 9998&&inB (cl s (ncB s.c i 0)) 0 99&&zeroB s.c (cl s (ncB s.c i 2))
def headsB (s:Sta):Bool:=(List.range s.c.keys.toNat).all (headOK s)
def nodesB (s:Sta):Bool:=(List.range s.c.cap.toNat).all (nodeOK s)
noncomputable def staB (s:Sta):Bool:=isCfB s.c&&(eqI s.cells.length (ccB s.c)&&(eqI s.gens.length s.c.cap&&(eqI s.ths.length s.c.th&&(inB (cl s 0) 1 s.c.cm&&(inB (cl s 1) 0 s.c.cap&&(inB s.steps 0 1000000&&(inB s.changes 0 1000000&&(inB s.retries 0 1000000&&(inB s.faults 0 1000000&&(headsB s&&(nodesB s&&s.ths.all (thB s.c))))))))))))
def Sta.i64 (s:Sta):Prop:=(∀ x∈s.cells,I64 x)∧∀ t∈s.ths,t.i64
theorem range_drop {n k:Nat} (h:k<n):(List.range n).drop k=k::(List.range n).drop (k+1):=by
 rw [List.drop_eq_getElem_cons (by simpa using h)];simp
theorem Th.len_of {t:Th} (h:t.room):t.len:=by
 obtain ⟨h1,h2,h3,h4,h5⟩:=h
 unfold Th.len maxLen;omega
theorem head_in {c:Cf} {k:Nat} (hc:isCfB c=true) (hk:k<c.keys.toNat):0≤headB c k∧headB c k<ccB c:=by
 have hb:=isCf_bd hc
 unfold headB ccB
 rw [if_pos ⟨hc,by omega,by omega⟩,if_pos hc]
 omega
theorem nc_in {c:Cf} {i:Nat} {f:Int} (hc:isCfB c=true) (hk:i<c.cap.toNat) (hf:0≤f∧f≤2):0≤ncB c i f∧ncB c i f<ccB c:=by
 have hb:=isCf_bd hc
 unfold ncB ccB
 rw [if_pos ⟨hc,⟨by omega,by omega⟩,hf⟩,if_pos hc]
 omega
theorem cl_get {s:Sta} {i:Int} (h:0≤i∧i<(s.cells.length:Int)):(s.cells.map iA)[i.toNat]?=some (iA (cl s i)):=map_get (by omega)
theorem cl_mem {s:Sta} {i:Int} (h:0≤i∧i<(s.cells.length:Int)):cl s i∈s.cells:=getD_mem (by omega)
theorem cl_lt {s:Sta} {i:Int} (h:0≤i∧i<(s.cells.length:Int)):decide (i<((s.cells.map iA).length:Int))=true:=by rw [List.length_map];exact decide_eq_true h.2
theorem F_impl_IsState_1 {n:Nat} {c:Cf} {t:Th} (hc:isCfB c=true) (ht:t.len) (hi:t.i64):callP cfg (n+10) 176 [.agg (thA t),.pv (cfA c)]=some ⟨.bool (!thB c t),[]⟩:=by
 rw [callP_succ]
 have fq1:=fun {n:Nat}=>F_impl_isThread (n:=n) hc ht hi
 refine go ?_
 clear fq1
 try with_reducible rfl
theorem idx_ths {n:Nat} {c:Cf} {xs:List Th} (hx:xs.length≤maxLen) (hxs:isCfB c=true∧∀ t∈xs,t.len∧t.i64):callP cfg (n+11) 263 [thsA xs,.fn 176 [.pv (cfA c)]]=some ⟨.int .i64 (idxF (fun t=>!thB c t) 0 xs),[]⟩:=by
 unfold maxLen at hx
 rw [callP_succ]
 refine go ?_
 refine (evLoop_run (fun e k=>e.set 8 (.int .i64 (k:Int))) (fun h _=>h) (fun k=>some ⟨.int .i64 (idxF (fun t=>!thB c t) k (xs.drop k)),[]⟩) xs.length (by show _<18446744073709551616;omega) rfl ?_).trans rfl
 intro k f hk IH
 by_cases hlt:k<xs.length
 ·have e1:=lt_map (f:=thA) hlt
  have e2:=nonneg k
  have r1:=map_get (f:=thA) hlt
  have hw:=wrapS (k:=k) (by omega)
  have hm:=hxs.2 _ (getD_mem hlt)
  rw [drop_cons hlt]
  by_cases hv:(fun t=>!thB c t) (xs.getD k default)=true
  ·have hi:idxF (fun t=>!thB c t) k (xs.getD k default::xs.drop (k+1))=(k:Int):=if_pos hv
   rw [hi]
   have fq1:=fun {n:Nat}=>F_impl_IsState_1 (n:=n) hxs.1 hm.1 hm.2
   refine go ?_
   clear fq1
   try with_reducible rfl
  ·have hv':(fun t=>!thB c t) (xs.getD k default)=false:=by simpa using hv
   have hi:idxF (fun t=>!thB c t) k (xs.getD k default::xs.drop (k+1))=idxF (fun t=>!thB c t) (k+1) (xs.drop (k+1)):=if_neg hv
   rw [hi]
   have fq1:=fun {n:Nat}=>F_impl_IsState_1 (n:=n) hxs.1 hm.1 hm.2
   refine go ?_
   clear fq1
   try with_reducible rfl
   exact IH hlt _ _ (by rw [hw];rfl) rfl
 ·have e1:=nlt_map (f:=thA) (Nat.le_of_not_lt hlt)
  rw [List.drop_eq_nil_of_le (by omega)]
  refine go ?_
  try with_reducible rfl
  rfl
theorem cf_ths {n:Nat} {c:Cf} {xs:List Th} (hx:xs.length≤maxLen) (hxs:isCfB c=true∧∀ t∈xs,t.len∧t.i64):callP cfg (n+12) 175 [thsA xs,.fn 176 [.pv (cfA c)]]=some ⟨.bool (!xs.all (thB c)),[]⟩:=by
 rw [callP_succ]
 have fq1:=fun {n:Nat}=>idx_ths (n:=n) hx hxs
 refine go ?_
 clear fq1
 try with_reducible rfl
 rw [←any_not];rw [←idxF_any _ _ 0]
theorem F_impl_ClockCell {n:Nat}:callP cfg (n+1) 48 []=some ⟨.int .i64 0,[]⟩:=by
 rw [callP_succ]
 refine go ?_
 try with_reducible rfl
theorem F_impl_ArenaCell {n:Nat}:callP cfg (n+1) 109 []=some ⟨.int .i64 1,[]⟩:=by
 rw [callP_succ]
 refine go ?_
 try with_reducible rfl
set_option maxHeartbeats 8000000 in
theorem F_impl_IsState {n:Nat} {s:Sta} (hr:s.room) (hi:s.i64):callP cfg (n+13) 108 [.agg (staA s)]=some ⟨.bool (staB s),[]⟩:=by
 rw [callP_succ]
 have hl:s.ths.length≤maxLen:=by have:=hr.2.2.1;unfold maxLen;omega
 by_cases hc:isCfB s.c=true
 ·skip
  by_cases n1:eqI s.cells.length (ccB s.c)=true
  ·skip
   have n1f:=(bne_f (by rw [List.length_map];exact of_decide_eq_true n1):(((s.cells.map iA).length:Int) !=ccB s.c)=false)
   by_cases n2:eqI s.gens.length s.c.cap=true
   ·skip
    have n2f:=(bne_f (by rw [List.length_map];exact of_decide_eq_true n2):(((s.gens.map iA).length:Int) !=s.c.cap)=false)
    by_cases n3:eqI s.ths.length s.c.th=true
    ·skip
     have n3f:=(bne_f (by rw [List.length_map];exact of_decide_eq_true n3):(((s.ths.map thA).length:Int) !=s.c.th)=false)
     have hb:=isCf_bd hc
     have m1:(s.cells.length:Int)=ccB s.c:=of_decide_eq_true n1
     have m2:(s.gens.length:Int)=s.c.cap:=of_decide_eq_true n2
     have m3:(s.ths.length:Int)=s.c.th:=of_decide_eq_true n3
     have hcc:ccB s.c=2+3*s.c.th+s.c.keys+3*s.c.cap:=by unfold ccB;rw [if_pos hc]
     have c0:(s.cells.map iA)[(0:Int).toNat]?=some (iA (cl s 0)):=cl_get (by omega)
     have c1:(s.cells.map iA)[(1:Int).toNat]?=some (iA (cl s 1)):=cl_get (by omega)
     have k0:decide ((0:Int)<((s.cells.map iA).length:Int))=true:=cl_lt (by omega)
     have k1:decide ((1:Int)<((s.cells.map iA).length:Int))=true:=cl_lt (by omega)
     have z0:decide ((0:Int)≤0)=true:=rfl
     have z1:decide ((0:Int)≤1)=true:=rfl
     by_cases q0:inB (cl s 0) 1 s.c.cm=true
     ·skip
      by_cases q1:inB (cl s 1) 0 s.c.cap=true
      ·skip
       by_cases q2:inB s.steps 0 1000000=true
       ·skip
        by_cases q3:inB s.changes 0 1000000=true
        ·skip
         by_cases q4:inB s.retries 0 1000000=true
         ·skip
          by_cases q5:inB s.faults 0 1000000=true
          ·skip
           have fq1:=@F_impl_IsConfig
           have fq2:=@F_impl_CellCount
           have fq3:=@F_impl_ClockCell
           have fq4:=@F_impl_ArenaCell
           have fq5:=@F_impl_in
           have r9:=c0
           have r8:=c1
           refine go ?_
           clear fq1 fq2 fq3 fq4 fq5 r9 r8
           have hS:staB s=(headsB s&&(nodesB s&&s.ths.all (thB s.c))):=by unfold staB;simp only [hc,n1,n2,n3,q0,q1,q2,q3,q4,q5,Bool.true_and]
           rw [hS]
           refine (evLoop_run (fun e k=>e.set 81 (.int .i64 (k:Int))) (fun h _=>h) (fun k=>some ⟨.bool (((List.range s.c.keys.toNat).drop k).all (headOK s)&&(nodesB s&&s.ths.all (thB s.c))),[]⟩) s.c.keys.toNat (by show _<18446744073709551616;omega) rfl ?_).trans rfl
           intro k f hk IH
           by_cases hlt:k<s.c.keys.toNat
           ·have e1:decide ((k:Int)<s.c.keys)=true:=decide_eq_true (by omega)
            have hw:=wrapS (k:=k) (by omega)
            have hh:=head_in hc hlt
            rw [←m1] at hh
            have e2:decide (0≤headB s.c k)=true:=decide_eq_true hh.1
            have e3:=cl_lt hh
            have r1:=cl_get hh
            have hm:=hi.1 _ (cl_mem hh)
            have hk4:(0:Int)≤(k:Int)∧(k:Int)<4:=by omega
            rw [range_drop hlt,List.all_cons]
            by_cases hv:headOK s k=true
            ·have e4:(!headOK s k)=false:=by rw [hv];rfl
             have fq1:=fun {n:Nat} {c:Cf}=>F_impl_HeadCell (n:=n) (c:=c) hk4
             have fq2:=fun {n:Nat} {c:Cf}=>F_impl_isLink (n:=n) (c:=c) hm
             refine go ?_
             clear fq1 fq2
             try with_reducible rfl
             rw [hv,Bool.true_and]
             exact IH hlt _ _ (by rw [hw];rfl) rfl
            ·have hv':headOK s k=false:=by simpa only [Bool.not_eq_true] using hv
             rw [hv']
             have fq1:=fun {n:Nat} {c:Cf}=>F_impl_HeadCell (n:=n) (c:=c) hk4
             have fq2:=fun {n:Nat} {c:Cf}=>F_impl_isLink (n:=n) (c:=c) hm
             refine go ?_
             clear fq1 fq2
             try with_reducible rfl
             rfl
           ·have e1:decide ((k:Int)<s.c.keys)=false:=decide_eq_false (by omega)
            rw [List.drop_eq_nil_of_le (by rw [List.length_range];omega),List.all_nil,Bool.true_and]
            clear IH
            refine go ?_
            refine (evLoop_run (fun e k=>e.set 97 (.int .i64 (k:Int))) (fun h _=>h) (fun k=>some ⟨.bool (((List.range s.c.cap.toNat).drop k).all (nodeOK s)&&s.ths.all (thB s.c)),[]⟩) s.c.cap.toNat (by show _<18446744073709551616;omega) rfl ?_).trans rfl
            clear hlt e1 hk
            intro k f hk IH
            by_cases hlt:k<s.c.cap.toNat
            ·have e1:decide ((k:Int)<s.c.cap)=true:=decide_eq_true (by omega)
             have hw:=wrapS (k:=k) (by omega)
             have h0:=nc_in (f:=0) hc hlt (by omega)
             have h2:=nc_in (f:=2) hc hlt (by omega)
             rw [←m1] at h0 h2
             have e2:decide (0≤ncB s.c k 0)=true:=decide_eq_true h0.1
             have e3:=cl_lt h0
             have r0:=cl_get h0
             have e4:decide (0≤ncB s.c k 2)=true:=decide_eq_true h2.1
             have e5:=cl_lt h2
             have r2:=cl_get h2
             have hm2:=hi.1 _ (cl_mem h2)
             have hu:=unmk_i64 hm2
             have hk4:(0:Int)≤(k:Int)∧(k:Int)<24:=by omega
             have hg:k<s.gens.length:=by omega
             have g1:=lt_map (f:=iA) hg
             have g2:=nonneg k
             have r1:=map_get (f:=iA) hg
             rw [range_drop hlt,List.all_cons]
             by_cases v1:inB (s.gens.getD k default) 0 9998=true
             ·by_cases v2:inB (cl s (ncB s.c k 0)) 0 99=true
              ·by_cases v3:zeroB s.c (cl s (ncB s.c k 2))=true
               ·have v3':lnkB s.c (unmk (cl s (ncB s.c k 2)))=true:=by rw [lnk_unmk];exact v3
                have hv:nodeOK s k=true:=by unfold nodeOK;rw [v1,v2,v3];rfl
                rw [hv,Bool.true_and]
                have fq1:=fun {n:Nat} {c:Cf}=>F_impl_NodeCell (n:=n) (c:=c) (f:=0) hk4 (by decide)
                have fq2:=fun {n:Nat} {c:Cf}=>F_impl_NodeCell (n:=n) (c:=c) (f:=2) hk4 (by decide)
                have fq3:=@F_impl_in
                have fq4:=fun {n:Nat}=>F_impl_Unmarked (n:=n) hm2
                have fq5:=fun {n:Nat} {c:Cf}=>F_impl_isLink (n:=n) (c:=c) hu
                refine go ?_
                clear fq1 fq2 fq3 fq4 fq5
                try with_reducible rfl
                exact IH hlt _ _ (by rw [hw];rfl) rfl
               ·have v3'':zeroB s.c (cl s (ncB s.c k 2))=false:=by simpa only [Bool.not_eq_true] using v3
                have v3':lnkB s.c (unmk (cl s (ncB s.c k 2)))=false:=by rw [lnk_unmk];exact v3''
                have hv:nodeOK s k=false:=by unfold nodeOK;rw [v1,v2,v3''];rfl
                rw [hv]
                have fq1:=fun {n:Nat} {c:Cf}=>F_impl_NodeCell (n:=n) (c:=c) (f:=0) hk4 (by decide)
                have fq2:=fun {n:Nat} {c:Cf}=>F_impl_NodeCell (n:=n) (c:=c) (f:=2) hk4 (by decide)
                have fq3:=@F_impl_in
                have fq4:=fun {n:Nat}=>F_impl_Unmarked (n:=n) hm2
                have fq5:=fun {n:Nat} {c:Cf}=>F_impl_isLink (n:=n) (c:=c) hu
                refine go ?_
                clear fq1 fq2 fq3 fq4 fq5
                try with_reducible rfl
                rfl
              ·have v2':inB (cl s (ncB s.c k 0)) 0 99=false:=by simpa only [Bool.not_eq_true] using v2
               have hv:nodeOK s k=false:=by unfold nodeOK;rw [v1,v2'];rfl
               rw [hv]
               have fq1:=fun {n:Nat} {c:Cf}=>F_impl_NodeCell (n:=n) (c:=c) (f:=0) hk4 (by decide)
               have fq2:=fun {n:Nat} {c:Cf}=>F_impl_NodeCell (n:=n) (c:=c) (f:=2) hk4 (by decide)
               have fq3:=@F_impl_in
               refine go ?_
               clear fq1 fq2 fq3
               try with_reducible rfl
               rfl
             ·have v1':inB (s.gens.getD k default) 0 9998=false:=by simpa only [Bool.not_eq_true] using v1
              have hv:nodeOK s k=false:=by unfold nodeOK;rw [v1'];rfl
              rw [hv]
              have fq1:=@F_impl_in
              refine go ?_
              clear fq1
              try with_reducible rfl
              rfl
            ·have e1:decide ((k:Int)<s.c.cap)=false:=decide_eq_false (by omega)
             rw [List.drop_eq_nil_of_le (by rw [List.length_range];omega),List.all_nil,Bool.true_and]
             clear IH
             have hq:isCfB s.c=true∧∀ t∈s.ths,t.len∧t.i64:=⟨hc,fun t ht=>⟨Th.len_of (hr.2.2.2 t ht),hi.2 t ht⟩⟩
             have fq1:=fun {n:Nat}=>cf_ths (n:=n) hl hq
             refine go ?_
             clear fq1
             try with_reducible rfl
             refine okB ?_
             rw [Bool.not_not]
          ·replace q5:inB s.faults 0 1000000=false:=by simpa only [Bool.not_eq_true] using q5
           have fq1:=@F_impl_IsConfig
           have fq2:=@F_impl_CellCount
           have fq3:=@F_impl_ClockCell
           have fq4:=@F_impl_ArenaCell
           have fq5:=@F_impl_in
           have r9:=c0
           have r8:=c1
           refine go ?_
           clear fq1 fq2 fq3 fq4 fq5 r9 r8
           try with_reducible rfl
           refine okB ?_
           unfold staB
           simp only [q5,Bool.false_and,Bool.and_false]
         ·replace q4:inB s.retries 0 1000000=false:=by simpa only [Bool.not_eq_true] using q4
          have fq1:=@F_impl_IsConfig
          have fq2:=@F_impl_CellCount
          have fq3:=@F_impl_ClockCell
          have fq4:=@F_impl_ArenaCell
          have fq5:=@F_impl_in
          have r9:=c0
          have r8:=c1
          refine go ?_
          clear fq1 fq2 fq3 fq4 fq5 r9 r8
          try with_reducible rfl
          refine okB ?_
          unfold staB
          simp only [q4,Bool.false_and,Bool.and_false]
        ·replace q3:inB s.changes 0 1000000=false:=by simpa only [Bool.not_eq_true] using q3
         have fq1:=@F_impl_IsConfig
         have fq2:=@F_impl_CellCount
         have fq3:=@F_impl_ClockCell
         have fq4:=@F_impl_ArenaCell
         have fq5:=@F_impl_in
         have r9:=c0
         have r8:=c1
         refine go ?_
         clear fq1 fq2 fq3 fq4 fq5 r9 r8
         try with_reducible rfl
         refine okB ?_
         unfold staB
         simp only [q3,Bool.false_and,Bool.and_false]
       ·replace q2:inB s.steps 0 1000000=false:=by simpa only [Bool.not_eq_true] using q2
        have fq1:=@F_impl_IsConfig
        have fq2:=@F_impl_CellCount
        have fq3:=@F_impl_ClockCell
        have fq4:=@F_impl_ArenaCell
        have fq5:=@F_impl_in
        have r9:=c0
        have r8:=c1
        refine go ?_
        clear fq1 fq2 fq3 fq4 fq5 r9 r8
        try with_reducible rfl
        refine okB ?_
        unfold staB
        simp only [q2,Bool.false_and,Bool.and_false]
      ·replace q1:inB (cl s 1) 0 s.c.cap=false:=by simpa only [Bool.not_eq_true] using q1
       have fq1:=@F_impl_IsConfig
       have fq2:=@F_impl_CellCount
       have fq3:=@F_impl_ClockCell
       have fq4:=@F_impl_ArenaCell
       have fq5:=@F_impl_in
       have r9:=c0
       have r8:=c1
       refine go ?_
       clear fq1 fq2 fq3 fq4 fq5 r9 r8
       try with_reducible rfl
       refine okB ?_
       unfold staB
       simp only [q1,Bool.false_and,Bool.and_false]
     ·replace q0:inB (cl s 0) 1 s.c.cm=false:=by simpa only [Bool.not_eq_true] using q0
      have fq1:=@F_impl_IsConfig
      have fq2:=@F_impl_CellCount
      have fq3:=@F_impl_ClockCell
      have fq4:=@F_impl_ArenaCell
      have fq5:=@F_impl_in
      have r9:=c0
      have r8:=c1
      refine go ?_
      clear fq1 fq2 fq3 fq4 fq5 r9 r8
      try with_reducible rfl
      refine okB ?_
      unfold staB
      simp only [q0,Bool.false_and,Bool.and_false]
    ·replace n3:eqI s.ths.length s.c.th=false:=by simpa only [Bool.not_eq_true] using n3
     have n3f:=(bne_t (by rw [List.length_map];exact of_decide_eq_false n3):(((s.ths.map thA).length:Int) !=s.c.th)=true)
     have fq1:=@F_impl_IsConfig
     have fq2:=@F_impl_CellCount
     refine go ?_
     clear fq1 fq2
     try with_reducible rfl
     refine okB ?_
     unfold staB
     simp only [n3,Bool.false_and,Bool.and_false]
   ·replace n2:eqI s.gens.length s.c.cap=false:=by simpa only [Bool.not_eq_true] using n2
    have n2f:=(bne_t (by rw [List.length_map];exact of_decide_eq_false n2):(((s.gens.map iA).length:Int) !=s.c.cap)=true)
    have fq1:=@F_impl_IsConfig
    have fq2:=@F_impl_CellCount
    refine go ?_
    clear fq1 fq2
    try with_reducible rfl
    refine okB ?_
    unfold staB
    simp only [n2,Bool.false_and,Bool.and_false]
  ·replace n1:eqI s.cells.length (ccB s.c)=false:=by simpa only [Bool.not_eq_true] using n1
   have n1f:=(bne_t (by rw [List.length_map];exact of_decide_eq_false n1):(((s.cells.map iA).length:Int) !=ccB s.c)=true)
   have fq1:=@F_impl_IsConfig
   have fq2:=@F_impl_CellCount
   refine go ?_
   clear fq1 fq2
   try with_reducible rfl
   refine okB ?_
   unfold staB
   simp only [n1,Bool.false_and,Bool.and_false]
 ·replace hc:isCfB s.c=false:=by simpa only [Bool.not_eq_true] using hc
  have fq1:=@F_impl_IsConfig
  have fq2:=@F_impl_CellCount
  refine go ?_
  clear fq1 fq2
  try with_reducible rfl
  refine okB ?_
  unfold staB
  simp only [hc,Bool.false_and,Bool.and_false]
def curB (s:Sta) (h:Int):Bool:=nodeB s.c h&&(s.gens.getD (idxB h).toNat default==genB h)
noncomputable def bornV (s:Sta):Int:=if staB s=true then cl s 1 else 0
noncomputable def headV (s:Sta) (k:Int):Int:=if staB s=true∧k≤s.c.keys - 1 then cl s (headB s.c k) else 0
def fldV (s:Sta) (h f:Int):Int:=cl s (ncB s.c (idxB h) f)
theorem sta_facts {s:Sta} (hs:staB s=true):isCfB s.c=true∧(s.cells.length:Int)=ccB s.c∧(s.gens.length:Int)=s.c.cap∧(s.ths.length:Int)=s.c.th∧(inB (cl s 1) 0 s.c.cap=true∧headsB s=true∧nodesB s=true∧s.ths.all (thB s.c)=true):=by
 unfold staB at hs
 simp only [Bool.and_eq_true] at hs
 obtain ⟨h1,h2,h3,h4,_,h6,_,_,_,_,h7,h8,h9⟩:=hs
 exact ⟨h1,of_decide_eq_true h2,of_decide_eq_true h3,of_decide_eq_true h4,by simp only [Bool.and_eq_true];exact h6,h7,h8,h9⟩
theorem idx_in {c:Cf} {h:Int} (hn:nodeB c h=true):0≤idxB h∧idxB h<c.cap:=by
 unfold nodeB at hn
 obtain ⟨h1,h2⟩:=Bool.and_eq_true_iff.1 hn
 refine ⟨?_,of_decide_eq_true h2⟩
 unfold idxB
 rw [if_pos h1]
 have:=of_decide_eq_true h1
 omega
theorem cc_eq {c:Cf} (hc:isCfB c=true):ccB c=2+3*c.th+c.keys+3*c.cap:=by unfold ccB;rw [if_pos hc]
theorem nc_in' {c:Cf} {i f:Int} (hc:isCfB c=true) (hi:0≤i∧i<c.cap) (hf:0≤f∧f≤2):0≤ncB c i f∧ncB c i f<ccB c:=by
 have hb:=isCf_bd hc
 rw [cc_eq hc]
 unfold ncB
 rw [if_pos ⟨hc,⟨by omega,by omega⟩,hf⟩]
 omega
theorem F_impl_current {n:Nat} {s:Sta} {h:Int} (hs:staB s=true) (hh:I64 h):callP cfg (n+4) 190 [.pv (staA s),.int .i64 h]=some ⟨.bool (curB s h),[]⟩:=by
 rw [callP_succ]
 obtain ⟨hc,m1,m2,m3,_⟩:=sta_facts hs
 unfold curB
 by_cases hn:nodeB s.c h=true
 ·have hx:=idx_in hn
  have hg:(idxB h).toNat<s.gens.length:=by omega
  have e1:decide (0≤idxB h)=true:=decide_eq_true hx.1
  have e2:decide (idxB h<((s.gens.map iA).length:Int))=true:=by rw [List.length_map];exact decide_eq_true (by omega)
  have r1:=map_get (f:=iA) hg
  rw [hn,Bool.true_and]
  have fq1:=fun {n:Nat} {c:Cf}=>F_impl_isNode (n:=n) (c:=c) hh
  have fq2:=fun {n:Nat}=>F_impl_IndexOf (n:=n) hh
  have fq3:=fun {n:Nat}=>F_impl_GenerationOf (n:=n) hh
  refine go ?_
  clear fq1 fq2 fq3
  try with_reducible rfl
 ·replace hn:nodeB s.c h=false:=by simpa only [Bool.not_eq_true] using hn
  rw [hn]
  have fq1:=fun {n:Nat} {c:Cf}=>F_impl_isNode (n:=n) (c:=c) hh
  refine go ?_
  clear fq1
  try with_reducible rfl
  rfl
end Go.Proofs.YtbploohjimpcaaaGreat.A
