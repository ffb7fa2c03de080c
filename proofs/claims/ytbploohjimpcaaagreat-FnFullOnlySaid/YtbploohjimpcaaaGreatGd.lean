/- What the program's functions answer (Gd): no condition. -/
import Derived.Test.YtbploohjimpcaaaGreatGb
set_option linter.unusedVariables false
set_option linter.unusedSimpArgs false
namespace Go.Proofs.YtbploohjimpcaaaGreat.A
open Go Go.Abs
set_option maxRecDepth 100000
def cl (s:Sta) (i:Int):Int:=s.cells.getD i.toNat default
def eqI (n:Nat) (x:Int):Bool:=decide ((n:Int)=x)
abbrev Xar (s:Sta) (k:Nat):Bool:=lnkB s.c (cl s (X2 s.c k))
abbrev Xbi (s:Sta) (i:Nat):Bool:=inB (s.gens.getD i default) 0 9998&&inB (cl s (ncB s.c i 0)) 0 99&&Vg s.c (cl s (ncB s.c i 2))
def Xdi (s:Sta):Bool:=(List.range s.c.keys.toNat).all (Xar s)
def Xhi (s:Sta):Bool:=(List.range s.c.cap.toNat).all (Xbi s)
noncomputable def staB (s:Sta):Bool:=Yp s.c&&(eqI s.cells.length (ccB s.c)&&(eqI s.gens.length s.c.cap&&(eqI s.ths.length s.c.th&&(inB (cl s 0) 1 s.c.cm&&(inB (cl s 1) 0 s.c.cap&&(inB s.steps 0 1000000&&(inB s.changes 0 1000000&&(inB s.retries 0 1000000&&(inB s.faults 0 1000000&&(Xdi s&&(Xhi s&&s.ths.all (thB s.c))))))))))))
def Sta.i64 (s:Sta):Prop:=(∀ x∈s.cells,I64 x)∧∀ t∈s.ths,t.i64
theorem Vt {n k:Nat} (h:k<n):(List.range n).drop k=k::(List.range n).drop (k+1):=by
 rw [List.drop_eq_getElem_cons (by simpa using h)];simp
theorem Th.len_of {t:Th} (h:t.room):t.len:=by
 obtain ⟨h1,h2,h3,h4,h5⟩:=h
 unfold Th.len maxLen;omega
theorem Xif {c:Cf} {k:Nat} (hc:Yp c=true) (hk:k<c.keys.toNat):0≤X2 c k∧X2 c k<ccB c:=by
 have hb:=Xm hc
 unfold X2 ccB
 rw [if_pos ⟨hc,by omega,by omega⟩,if_pos hc]
 omega
theorem Xv0 {c:Cf} {i:Nat} {f:Int} (hc:Yp c=true) (hk:i<c.cap.toNat) (hf:0≤f∧f≤2):0≤ncB c i f∧ncB c i f<ccB c:=by
 have hb:=Xm hc
 unfold ncB ccB
 rw [if_pos ⟨hc,⟨by omega,by omega⟩,hf⟩,if_pos hc]
 omega
theorem V6 {s:Sta} {i:Int} (h:0≤i∧i<(s.cells.length:Int)):(s.cells.map iA)[i.toNat]?=some (iA (cl s i)):=Xe (by omega)
theorem Xdj {s:Sta} {i:Int} (h:0≤i∧i<(s.cells.length:Int)):cl s i∈s.cells:=Xi (by omega)
theorem Xal {s:Sta} {i:Int} (h:0≤i∧i<(s.cells.length:Int)):decide (i<((s.cells.map iA).length:Int))=true:=by rw [List.length_map];exact decide_eq_true h.2
theorem Xdy {n:Nat} {c:Cf} {t:Th} (hc:Yp c=true) (ht:t.len) (hi:t.i64):callP cfg (n+10) 176 [.agg (thA t),.pv (cfA c)]=some ⟨.bool (!thB c t),[]⟩:=by
 rw [Xa]
 have fq1:=fun {n:Nat}=>Xk2 (n:=n) hc ht hi
 refine go ?_
 clear fq1
 try with_reducible rfl
theorem X2j {n:Nat} {c:Cf} {xs:List Th} (hx:xs.length≤maxLen) (hxs:Yp c=true∧∀ t∈xs,t.len∧t.i64):callP cfg (n+11) 263 [thsA xs,.fn 176 [.pv (cfA c)]]=some ⟨.int .i64 (idxF (fun t=>!thB c t) 0 xs),[]⟩:=by
 unfold maxLen at hx
 rw [Xa]
 refine go ?_
 refine (Xb (fun e k=>e.set 8 (.int .i64 (k:Int))) (fun h _=>h) (fun k=>some ⟨.int .i64 (idxF (fun t=>!thB c t) k (xs.drop k)),[]⟩) xs.length (by show _<18446744073709551616;omega) rfl ?_).trans rfl
 intro k f hk IH
 by_cases hlt:k<xs.length
 ·have e1:=Xf (f:=thA) hlt
  have e2:=Xg k
  have r1:=Xe (f:=thA) hlt
  have hw:=Xv (k:=k) (by omega)
  have hm:=hxs.2 _ (Xi hlt)
  rw [Xq hlt]
  by_cases hv:(fun t=>!thB c t) (xs.getD k default)=true
  ·have hi:idxF (fun t=>!thB c t) k (xs.getD k default::xs.drop (k+1))=(k:Int):=if_pos hv
   rw [hi]
   have fq1:=fun {n:Nat}=>Xdy (n:=n) hxs.1 hm.1 hm.2
   refine go ?_
   clear fq1
   try with_reducible rfl
  ·have hv':(fun t=>!thB c t) (xs.getD k default)=false:=by simpa using hv
   have hi:idxF (fun t=>!thB c t) k (xs.getD k default::xs.drop (k+1))=idxF (fun t=>!thB c t) (k+1) (xs.drop (k+1)):=if_neg hv
   rw [hi]
   have fq1:=fun {n:Nat}=>Xdy (n:=n) hxs.1 hm.1 hm.2
   refine go ?_
   clear fq1
   try with_reducible rfl
   exact IH hlt _ _ (by rw [hw];rfl) rfl
 ·have e1:=Xh (f:=thA) (Nat.le_of_not_lt hlt)
  rw [List.drop_eq_nil_of_le (by omega)]
  refine go ?_
  try with_reducible rfl
  rfl
theorem X4p {n:Nat} {c:Cf} {xs:List Th} (hx:xs.length≤maxLen) (hxs:Yp c=true∧∀ t∈xs,t.len∧t.i64):callP cfg (n+12) 175 [thsA xs,.fn 176 [.pv (cfA c)]]=some ⟨.bool (!xs.all (thB c)),[]⟩:=by
 rw [Xa]
 have fq1:=fun {n:Nat}=>X2j (n:=n) hx hxs
 refine go ?_
 clear fq1
 try with_reducible rfl
 rw [←Q5];rw [←V5 _ _ 0]
theorem Zo {n:Nat}:callP cfg (n+1) 48 []=some ⟨.int .i64 0,[]⟩:=by
 rw [Xa]
 refine go ?_
 try with_reducible rfl
theorem Yc {n:Nat}:callP cfg (n+1) 109 []=some ⟨.int .i64 1,[]⟩:=by
 rw [Xa]
 refine go ?_
 try with_reducible rfl
set_option maxHeartbeats 8000000 in
theorem V7 {n:Nat} {s:Sta} (hr:s.room) (hi:s.i64):callP cfg (n+13) 108 [.agg (staA s)]=some ⟨.bool (staB s),[]⟩:=by
 rw [Xa]
 have hl:s.ths.length≤maxLen:=by have:=hr.2.2.1;unfold maxLen;omega
 by_cases hc:Yp s.c=true
 ·skip
  by_cases n1:eqI s.cells.length (ccB s.c)=true
  ·skip
   have n1f:=(Yb (by rw [List.length_map];exact of_decide_eq_true n1):(((s.cells.map iA).length:Int) !=ccB s.c)=false)
   by_cases n2:eqI s.gens.length s.c.cap=true
   ·skip
    have n2f:=(Yb (by rw [List.length_map];exact of_decide_eq_true n2):(((s.gens.map iA).length:Int) !=s.c.cap)=false)
    by_cases n3:eqI s.ths.length s.c.th=true
    ·skip
     have n3f:=(Yb (by rw [List.length_map];exact of_decide_eq_true n3):(((s.ths.map thA).length:Int) !=s.c.th)=false)
     have hb:=Xm hc
     have m1:(s.cells.length:Int)=ccB s.c:=of_decide_eq_true n1
     have m2:(s.gens.length:Int)=s.c.cap:=of_decide_eq_true n2
     have m3:(s.ths.length:Int)=s.c.th:=of_decide_eq_true n3
     have hcc:ccB s.c=2+3*s.c.th+s.c.keys+3*s.c.cap:=by unfold ccB;rw [if_pos hc]
     have c0:(s.cells.map iA)[(0:Int).toNat]?=some (iA (cl s 0)):=V6 (by omega)
     have c1:(s.cells.map iA)[(1:Int).toNat]?=some (iA (cl s 1)):=V6 (by omega)
     have k0:decide ((0:Int)<((s.cells.map iA).length:Int))=true:=Xal (by omega)
     have k1:decide ((1:Int)<((s.cells.map iA).length:Int))=true:=Xal (by omega)
     have z0:decide ((0:Int)≤0)=true:=rfl
     have z1:decide ((0:Int)≤1)=true:=rfl
     by_cases q0:inB (cl s 0) 1 s.c.cm=true
     ·skip
      by_cases q1:inB (cl s 1) 0 s.c.cap=true
      ·skip
       by_cases q2:inB s.steps 0 1000000=true
       ·skip
        by_cases q3:inB s.changes 0 1000000=true
        ·skip
         by_cases q4:inB s.retries 0 1000000=true
         ·skip
          by_cases q5:inB s.faults 0 1000000=true
          ·skip
           have fq1:=@Xx
           have fq2:=@Yy
           have fq3:=@Zo
           have fq4:=@Yc
           have fq5:=@X1
           have r9:=c0
           have r8:=c1
           refine go ?_
           clear fq1 fq2 fq3 fq4 fq5 r9 r8
           have hS:staB s=(Xdi s&&(Xhi s&&s.ths.all (thB s.c))):=by unfold staB;simp only [hc,n1,n2,n3,q0,q1,q2,q3,q4,q5,Bool.true_and]
           rw [hS]
           refine (Xb (fun e k=>e.set 81 (.int .i64 (k:Int))) (fun h _=>h) (fun k=>some ⟨.bool (((List.range s.c.keys.toNat).drop k).all (Xar s)&&(Xhi s&&s.ths.all (thB s.c))),[]⟩) s.c.keys.toNat (by show _<18446744073709551616;omega) rfl ?_).trans rfl
           intro k f hk IH
           by_cases hlt:k<s.c.keys.toNat
           ·have e1:decide ((k:Int)<s.c.keys)=true:=decide_eq_true (by omega)
            have hw:=Xv (k:=k) (by omega)
            have hh:=Xif hc hlt
            rw [←m1] at hh
            have e2:decide (0≤X2 s.c k)=true:=decide_eq_true hh.1
            have e3:=Xal hh
            have r1:=V6 hh
            have hm:=hi.1 _ (Xdj hh)
            have hk4:(0:Int)≤(k:Int)∧(k:Int)<4:=by omega
            rw [Vt hlt,List.all_cons]
            by_cases hv:Xar s k=true
            ·have e4:(!Xar s k)=false:=by rw [hv];rfl
             have fq1:=fun {n:Nat} {c:Cf}=>Qf (n:=n) (c:=c) hk4
             have fq2:=fun {n:Nat} {c:Cf}=>X7 (n:=n) (c:=c) hm
             refine go ?_
             clear fq1 fq2
             try with_reducible rfl
             rw [hv,Bool.true_and]
             exact IH hlt _ _ (by rw [hw];rfl) rfl
            ·have hv':Xar s k=false:=by simpa only [Bool.not_eq_true] using hv
             rw [hv']
             have fq1:=fun {n:Nat} {c:Cf}=>Qf (n:=n) (c:=c) hk4
             have fq2:=fun {n:Nat} {c:Cf}=>X7 (n:=n) (c:=c) hm
             refine go ?_
             clear fq1 fq2
             try with_reducible rfl
             rfl
           ·have e1:decide ((k:Int)<s.c.keys)=false:=decide_eq_false (by omega)
            rw [List.drop_eq_nil_of_le (by rw [List.length_range];omega),List.all_nil,Bool.true_and]
            clear IH
            refine go ?_
            refine (Xb (fun e k=>e.set 97 (.int .i64 (k:Int))) (fun h _=>h) (fun k=>some ⟨.bool (((List.range s.c.cap.toNat).drop k).all (Xbi s)&&s.ths.all (thB s.c)),[]⟩) s.c.cap.toNat (by show _<18446744073709551616;omega) rfl ?_).trans rfl
            clear hlt e1 hk
            intro k f hk IH
            by_cases hlt:k<s.c.cap.toNat
            ·have e1:decide ((k:Int)<s.c.cap)=true:=decide_eq_true (by omega)
             have hw:=Xv (k:=k) (by omega)
             have h0:=Xv0 (f:=0) hc hlt (by omega)
             have h2:=Xv0 (f:=2) hc hlt (by omega)
             rw [←m1] at h0 h2
             have e2:decide (0≤ncB s.c k 0)=true:=decide_eq_true h0.1
             have e3:=Xal h0
             have r0:=V6 h0
             have e4:decide (0≤ncB s.c k 2)=true:=decide_eq_true h2.1
             have e5:=Xal h2
             have r2:=V6 h2
             have hm2:=hi.1 _ (Xdj h2)
             have hu:=Xy hm2
             have hk4:(0:Int)≤(k:Int)∧(k:Int)<24:=by omega
             have hg:k<s.gens.length:=by omega
             have g1:=Xf (f:=iA) hg
             have g2:=Xg k
             have r1:=Xe (f:=iA) hg
             rw [Vt hlt,List.all_cons]
             by_cases v1:inB (s.gens.getD k default) 0 9998=true
             ·by_cases v2:inB (cl s (ncB s.c k 0)) 0 99=true
              ·by_cases v3:Vg s.c (cl s (ncB s.c k 2))=true
               ·have v3':lnkB s.c (unmk (cl s (ncB s.c k 2)))=true:=by rw [Wm];exact v3
                have hv:Xbi s k=true:=by unfold Xbi;rw [v1,v2,v3];rfl
                rw [hv,Bool.true_and]
                have fq1:=fun {n:Nat} {c:Cf}=>Wc (n:=n) (c:=c) (f:=0) hk4 (by decide)
                have fq2:=fun {n:Nat} {c:Cf}=>Wc (n:=n) (c:=c) (f:=2) hk4 (by decide)
                have fq3:=@X1
                have fq4:=fun {n:Nat}=>Ze (n:=n) hm2
                have fq5:=fun {n:Nat} {c:Cf}=>X7 (n:=n) (c:=c) hu
                refine go ?_
                clear fq1 fq2 fq3 fq4 fq5
                try with_reducible rfl
                exact IH hlt _ _ (by rw [hw];rfl) rfl
               ·have v3'':Vg s.c (cl s (ncB s.c k 2))=false:=by simpa only [Bool.not_eq_true] using v3
                have v3':lnkB s.c (unmk (cl s (ncB s.c k 2)))=false:=by rw [Wm];exact v3''
                have hv:Xbi s k=false:=by unfold Xbi;rw [v1,v2,v3''];rfl
                rw [hv]
                have fq1:=fun {n:Nat} {c:Cf}=>Wc (n:=n) (c:=c) (f:=0) hk4 (by decide)
                have fq2:=fun {n:Nat} {c:Cf}=>Wc (n:=n) (c:=c) (f:=2) hk4 (by decide)
                have fq3:=@X1
                have fq4:=fun {n:Nat}=>Ze (n:=n) hm2
                have fq5:=fun {n:Nat} {c:Cf}=>X7 (n:=n) (c:=c) hu
                refine go ?_
                clear fq1 fq2 fq3 fq4 fq5
                try with_reducible rfl
                rfl
              ·have v2':inB (cl s (ncB s.c k 0)) 0 99=false:=by simpa only [Bool.not_eq_true] using v2
               have hv:Xbi s k=false:=by unfold Xbi;rw [v1,v2'];rfl
               rw [hv]
               have fq1:=fun {n:Nat} {c:Cf}=>Wc (n:=n) (c:=c) (f:=0) hk4 (by decide)
               have fq2:=fun {n:Nat} {c:Cf}=>Wc (n:=n) (c:=c) (f:=2) hk4 (by decide)
               have fq3:=@X1
               refine go ?_
               clear fq1 fq2 fq3
               try with_reducible rfl
               rfl
             ·have v1':inB (s.gens.getD k default) 0 9998=false:=by simpa only [Bool.not_eq_true] using v1
              have hv:Xbi s k=false:=by unfold Xbi;rw [v1'];rfl
              rw [hv]
              have fq1:=@X1
              refine go ?_
              clear fq1
              try with_reducible rfl
              rfl
            ·have e1:decide ((k:Int)<s.c.cap)=false:=decide_eq_false (by omega)
             rw [List.drop_eq_nil_of_le (by rw [List.length_range];omega),List.all_nil,Bool.true_and]
             clear IH
             have hq:Yp s.c=true∧∀ t∈s.ths,t.len∧t.i64:=⟨hc,fun t ht=>⟨Th.len_of (hr.2.2.2 t ht),hi.2 t ht⟩⟩
             have fq1:=fun {n:Nat}=>X4p (n:=n) hl hq
             refine go ?_
             clear fq1
             try with_reducible rfl
             refine okB ?_
             rw [Bool.not_not]
          ·replace q5:inB s.faults 0 1000000=false:=by simpa only [Bool.not_eq_true] using q5
           have fq1:=@Xx
           have fq2:=@Yy
           have fq3:=@Zo
           have fq4:=@Yc
           have fq5:=@X1
           have r9:=c0
           have r8:=c1
           refine go ?_
           clear fq1 fq2 fq3 fq4 fq5 r9 r8
           try with_reducible rfl
           refine okB ?_
           unfold staB
           simp only [q5,Bool.false_and,Bool.and_false]
         ·replace q4:inB s.retries 0 1000000=false:=by simpa only [Bool.not_eq_true] using q4
          have fq1:=@Xx
          have fq2:=@Yy
          have fq3:=@Zo
          have fq4:=@Yc
          have fq5:=@X1
          have r9:=c0
          have r8:=c1
          refine go ?_
          clear fq1 fq2 fq3 fq4 fq5 r9 r8
          try with_reducible rfl
          refine okB ?_
          unfold staB
          simp only [q4,Bool.false_and,Bool.and_false]
        ·replace q3:inB s.changes 0 1000000=false:=by simpa only [Bool.not_eq_true] using q3
         have fq1:=@Xx
         have fq2:=@Yy
         have fq3:=@Zo
         have fq4:=@Yc
         have fq5:=@X1
         have r9:=c0
         have r8:=c1
         refine go ?_
         clear fq1 fq2 fq3 fq4 fq5 r9 r8
         try with_reducible rfl
         refine okB ?_
         unfold staB
         simp only [q3,Bool.false_and,Bool.and_false]
       ·replace q2:inB s.steps 0 1000000=false:=by simpa only [Bool.not_eq_true] using q2
        have fq1:=@Xx
        have fq2:=@Yy
        have fq3:=@Zo
        have fq4:=@Yc
        have fq5:=@X1
        have r9:=c0
        have r8:=c1
        refine go ?_
        clear fq1 fq2 fq3 fq4 fq5 r9 r8
        try with_reducible rfl
        refine okB ?_
        unfold staB
        simp only [q2,Bool.false_and,Bool.and_false]
      ·replace q1:inB (cl s 1) 0 s.c.cap=false:=by simpa only [Bool.not_eq_true] using q1
       have fq1:=@Xx
       have fq2:=@Yy
       have fq3:=@Zo
       have fq4:=@Yc
       have fq5:=@X1
       have r9:=c0
       have r8:=c1
       refine go ?_
       clear fq1 fq2 fq3 fq4 fq5 r9 r8
       try with_reducible rfl
       refine okB ?_
       unfold staB
       simp only [q1,Bool.false_and,Bool.and_false]
     ·replace q0:inB (cl s 0) 1 s.c.cm=false:=by simpa only [Bool.not_eq_true] using q0
      have fq1:=@Xx
      have fq2:=@Yy
      have fq3:=@Zo
      have fq4:=@Yc
      have fq5:=@X1
      have r9:=c0
      have r8:=c1
      refine go ?_
      clear fq1 fq2 fq3 fq4 fq5 r9 r8
      try with_reducible rfl
      refine okB ?_
      unfold staB
      simp only [q0,Bool.false_and,Bool.and_false]
    ·replace n3:eqI s.ths.length s.c.th=false:=by simpa only [Bool.not_eq_true] using n3
     have n3f:=(Zn (by rw [List.length_map];exact of_decide_eq_false n3):(((s.ths.map thA).length:Int) !=s.c.th)=true)
     have fq1:=@Xx
     have fq2:=@Yy
     refine go ?_
     clear fq1 fq2
     try with_reducible rfl
     refine okB ?_
     unfold staB
     simp only [n3,Bool.false_and,Bool.and_false]
   ·replace n2:eqI s.gens.length s.c.cap=false:=by simpa only [Bool.not_eq_true] using n2
    have n2f:=(Zn (by rw [List.length_map];exact of_decide_eq_false n2):(((s.gens.map iA).length:Int) !=s.c.cap)=true)
    have fq1:=@Xx
    have fq2:=@Yy
    refine go ?_
    clear fq1 fq2
    try with_reducible rfl
    refine okB ?_
    unfold staB
    simp only [n2,Bool.false_and,Bool.and_false]
  ·replace n1:eqI s.cells.length (ccB s.c)=false:=by simpa only [Bool.not_eq_true] using n1
   have n1f:=(Zn (by rw [List.length_map];exact of_decide_eq_false n1):(((s.cells.map iA).length:Int) !=ccB s.c)=true)
   have fq1:=@Xx
   have fq2:=@Yy
   refine go ?_
   clear fq1 fq2
   try with_reducible rfl
   refine okB ?_
   unfold staB
   simp only [n1,Bool.false_and,Bool.and_false]
 ·replace hc:Yp s.c=false:=by simpa only [Bool.not_eq_true] using hc
  have fq1:=@Xx
  have fq2:=@Yy
  refine go ?_
  clear fq1 fq2
  try with_reducible rfl
  refine okB ?_
  unfold staB
  simp only [hc,Bool.false_and,Bool.and_false]
def curB (s:Sta) (h:Int):Bool:=Y4 s.c h&&(s.gens.getD (idxB h).toNat default==genB h)
noncomputable def Xpb (s:Sta):Int:=if staB s=true then cl s 1 else 0
noncomputable def Xv1 (s:Sta) (k:Int):Int:=if staB s=true∧k≤s.c.keys - 1 then cl s (X2 s.c k) else 0
def fldV (s:Sta) (h f:Int):Int:=cl s (ncB s.c (idxB h) f)
theorem Zx {s:Sta} (hs:staB s=true):Yp s.c=true∧(s.cells.length:Int)=ccB s.c∧(s.gens.length:Int)=s.c.cap∧(s.ths.length:Int)=s.c.th∧(inB (cl s 1) 0 s.c.cap=true∧Xdi s=true∧Xhi s=true∧s.ths.all (thB s.c)=true):=by
 unfold staB at hs
 simp only [Bool.and_eq_true] at hs
 obtain ⟨h1,h2,h3,h4,_,h6,_,_,_,_,h7,h8,h9⟩:=hs
 exact ⟨h1,of_decide_eq_true h2,of_decide_eq_true h3,of_decide_eq_true h4,by simp only [Bool.and_eq_true];exact h6,h7,h8,h9⟩
theorem Y3 {c:Cf} {h:Int} (hn:Y4 c h=true):0≤idxB h∧idxB h<c.cap:=by
 unfold Y4 at hn
 obtain ⟨h1,h2⟩:=Bool.and_eq_true_iff.1 hn
 refine ⟨?_,of_decide_eq_true h2⟩
 unfold idxB
 rw [if_pos h1]
 have:=of_decide_eq_true h1
 omega
theorem Xig {c:Cf} (hc:Yp c=true):ccB c=2+3*c.th+c.keys+3*c.cap:=by unfold ccB;rw [if_pos hc]
theorem Xuc {c:Cf} {i f:Int} (hc:Yp c=true) (hi:0≤i∧i<c.cap) (hf:0≤f∧f≤2):0≤ncB c i f∧ncB c i f<ccB c:=by
 have hb:=Xm hc
 rw [Xig hc]
 unfold ncB
 rw [if_pos ⟨hc,⟨by omega,by omega⟩,hf⟩]
 omega
theorem Q6 {n:Nat} {s:Sta} {h:Int} (hs:staB s=true) (hh:I64 h):callP cfg (n+4) 190 [.pv (staA s),.int .i64 h]=some ⟨.bool (curB s h),[]⟩:=by
 rw [Xa]
 obtain ⟨hc,m1,m2,m3,_⟩:=Zx hs
 unfold curB
 by_cases hn:Y4 s.c h=true
 ·have hx:=Y3 hn
  have hg:(idxB h).toNat<s.gens.length:=by omega
  have e1:decide (0≤idxB h)=true:=decide_eq_true hx.1
  have e2:decide (idxB h<((s.gens.map iA).length:Int))=true:=by rw [List.length_map];exact decide_eq_true (by omega)
  have r1:=Xe (f:=iA) hg
  rw [hn,Bool.true_and]
  have fq1:=fun {n:Nat} {c:Cf}=>Qd (n:=n) (c:=c) hh
  have fq2:=fun {n:Nat}=>Yo (n:=n) hh
  have fq3:=fun {n:Nat}=>Xgk (n:=n) hh
  refine go ?_
  clear fq1 fq2 fq3
  try with_reducible rfl
 ·replace hn:Y4 s.c h=false:=by simpa only [Bool.not_eq_true] using hn
  rw [hn]
  have fq1:=fun {n:Nat} {c:Cf}=>Qd (n:=n) (c:=c) hh
  refine go ?_
  clear fq1
  try with_reducible rfl
  rfl
end Go.Proofs.YtbploohjimpcaaaGreat.A
