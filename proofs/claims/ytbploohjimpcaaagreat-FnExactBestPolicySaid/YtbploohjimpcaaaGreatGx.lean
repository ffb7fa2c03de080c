/- What the program's functions answer (Gx): no condition. -/
import Derived.Test.YtbploohjimpcaaaGreatGv
import Derived.Test.YtbploohjimpcaaaGreatGu
set_option linter.unusedVariables false
set_option linter.unusedSimpArgs false
namespace Go.Proofs.YtbploohjimpcaaaGreat.A
open Go Go.Abs
set_option maxRecDepth 100000
def wp (x:Scr) (k:Int):Scr:=⟨{x.c with p:=k},x.ps,x.picks⟩
theorem wp_ok {x:Scr} {k:Int} (hs:scrB x=true) (hk:0≤k∧k≤2):scrB (wp x k)=true:=by
 unfold scrB progsB isCfB inB at *
 unfold wp
 simp only [Bool.and_eq_true,decide_eq_true_eq] at *
 obtain ⟨⟨⟨⟨⟨⟨⟨h1,h2⟩,h3⟩,h4⟩,h5⟩,h6⟩,h7⟩,h8⟩:=hs
 exact ⟨⟨⟨⟨⟨⟨⟨h1,h2⟩,h3⟩,h4⟩,hk⟩,h6⟩,h7⟩,h8⟩
structure Sm where
 p:Int
 st:Int
 rt:Int
 hi:Int
 al:Int
 rf:Int
abbrev smA (m:Sm):List AV:=[.int .i64 m.p,.int .i64 m.st,.int .i64 m.rt,.int .i64 m.hi,.int .i64 m.al,.int .i64 m.rf]
noncomputable def smV (x:Scr) (k:Nat):Sm:=⟨(k:Int),(sumR (wp x (k:Int)) x.picks.length).1.s.steps,(sumR (wp x (k:Int)) x.picks.length).1.s.retries,(sumR (wp x (k:Int)) x.picks.length).2,alV (sumR (wp x (k:Int)) x.picks.length).1.s,refC (sumR (wp x (k:Int)) x.picks.length).1.evs⟩
theorem sumA_wp {x:Scr} {k:Nat}:sumA (wp x (k:Int))=smA (smV x k):=rfl
noncomputable def smL (x:Scr) (k:Nat):List (List AV):=(List.range k).map fun j=>smA (smV x j)
theorem smL_succ {x:Scr} {k:Nat}:smL x (k+1)=smL x k++[smA (smV x k)]:=by unfold smL;rw [List.range_succ,List.map_append];rfl
theorem smL_len {x:Scr} {k:Nat}:(smL x k).length=k:=by unfold smL;simp
theorem smL_get {x:Scr} {k j:Nat} (h:j<k):(smL x k)[j]?=some (smA (smV x j)):=by unfold smL;simp [h]
set_option maxHeartbeats 4000000 in
theorem F_impl_WithPolicy {n:Nat} {x:Scr} {k:Int} (hx:x.room):callP cfg (n+3) 91 [.agg (scrA x),.int .i64 k]=some ⟨.agg (scrA (wp x k)),[]⟩:=by
 rw [callP_succ]
 obtain ⟨h1,h2,h3⟩:=hx
 have g1:x.picks.length*8≤140737488355328:=by omega
 have fq1:=fun {n:Nat}=>F_impl_copyPrograms (n:=n) h1 h2
 have fq2:=fun {n:Nat}=>F_slices_Clone_int_int (n:=n) g1
 refine goD ?_
 clear fq1 fq2
 try with_reducible rfl
 all_goals rfl
set_option maxHeartbeats 4000000 in
theorem F_spec_WithPolicy {n:Nat} {x:Scr} {kk:Int} (hx:x.room):callP cfg (n+1) 90 [.agg (scrA x),.int .i64 kk]=some ⟨.agg (scrA (wp x kk)),[]⟩:=by
 rw [callP_succ]
 obtain ⟨h1,h2,h3⟩:=hx
 have z40:ty40.zero=[.int .i64 0,.int .i64 0,.int .i64 0,.int .i64 0,.int .i64 0,.int .i64 0,.lst 1 [],.lst 1 []]:=rfl
 have l0:leafRows (x.picks.map iA)=true:=leafRows_map fun x=>rfl
 have m0:decide ((([]:List (List AV)).length+(x.picks.map iA).length)*8≤roomB)=true:=decide_eq_true (by simp only [List.length_nil,Nat.zero_add,List.length_map];show _≤140737488355328;omega)
 have x1:=fun {x y:R}=>br_pos (x:=x) (y:=y) m0
 refine goD ?_
 repeat (refine (eqS_self _ _).trans ?_;refine goD ?_)
 clear x1
 refine (evLoop_run (fun e k=>e.set 6 (.int .i64 (k:Int))) (fun h k=>h.set 10 (some ⟨false,false,true,ty40.size,[[.int .i64 x.c.th,.int .i64 x.c.keys,.int .i64 x.c.cap,.int .i64 x.c.b,.int .i64 kk,.int .i64 x.c.cm,.lst 1 ((x.ps.take k).map progA),intsA x.picks]]⟩)) (fun _=>some ⟨.agg (scrA (wp x kk)),[]⟩) x.ps.length (by show _<18446744073709551616;omega) rfl ?_).trans rfl
 intro k f hk IH
 by_cases hlt:k<x.ps.length
 ·have e1:=lt_map (f:=progA) hlt
  have e2:=nonneg k
  have r1:=map_get (f:=progA) hlt
  have hw:=wrapS (k:=k) (by omega)
  have hm:=h2 _ (getD_mem hlt)
  have l1:leafRows ((x.ps.getD k default).map opA)=true:=leafRows_map fun x=>rfl
  have m1:decide ((([]:List (List AV)).length+((x.ps.getD k default).map opA).length)*24≤roomB)=true:=decide_eq_true (by simp only [List.length_nil,Nat.zero_add,List.length_map];show _≤140737488355328;omega)
  have e3:decide ((((x.ps.take k).map progA).length+1)*24≤roomB)=true:=decide_eq_true (by
   have:((x.ps.take k).map progA).length=k:=by rw [List.length_map,List.length_take];omega
   rw [this];show _≤140737488355328;omega)
  have x1:=fun {x y:R}=>br_pos (x:=x) (y:=y) m1
  have x2:=fun {x y:R}=>br_pos (x:=x) (y:=y) e3
  refine goD ?_
  clear x1 x2
  try with_reducible rfl
  exact IH hlt _ _ (by rw [hw];rfl) (by rw [←take_snoc hlt];rfl)
 ·have e1:=nlt_map (f:=progA) (Nat.le_of_not_lt hlt)
  obtain rfl:k=x.ps.length:=by omega
  rw [List.take_length]
  refine go ?_
  try with_reducible rfl
  all_goals rfl
set_option maxHeartbeats 4000000 in
theorem F_impl_ComparePolicies {n:Nat} {x:Scr} (hx:x.room):callP cfg (n+62) 30 [.agg (scrA x)]=some ⟨.lst 6 (if scrB x=true then smL x 3 else []),[]⟩:=by
 rw [callP_succ]
 by_cases hs:scrB x=true
 ·rw [if_pos hs]
  have hI:=fun {n:Nat}=>F_impl_IsScript (n:=n) hx
  rw [hs] at hI
  have fq12:=@hI
  refine go ?_
  refine (evLoop_run (fun e k=>e.set 4 (.int .i64 (k:Int))) (fun h k=>h.set 3 (some ⟨false,false,false,ty48.size,smL x k⟩)) (fun _=>some ⟨.lst 6 (smL x 3),[]⟩) 3 (by decide) rfl ?_).trans rfl
  intro k f hk IH
  have fq12:=@hI
  by_cases hlt:k<3
  ·have hw:=wrapS (k:=k) (by omega)
   have b1:decide ((k:Int)≤2)=true:=decide_eq_true (by omega)
   have hok:=wp_ok (k:=(k:Int)) hs ⟨by omega,by omega⟩
   have hS:=fun {n:Nat}=>F_impl_SummaryOf (n:=n) (x:=wp x (k:Int)) hx
   rw [if_pos hok,hok,sumA_wp] at hS
   have fq11:=@hS
   have e3:decide (((smL x k).length+1)*48≤roomB)=true:=decide_eq_true (by rw [smL_len];show _≤140737488355328;omega)
   have fq1:=fun {n:Nat} {k:Int}=>F_impl_WithPolicy (n:=n) (k:=k) hx
   have x1:=fun {x y:R}=>br_pos (x:=x) (y:=y) e3
   refine go ?_
   clear fq1 x1
   try with_reducible rfl
   exact IH hlt _ _ (by rw [hw];rfl) (by rw [smL_succ];rfl)
  ·have b1:decide ((k:Int)≤2)=false:=decide_eq_false (by omega)
   obtain rfl:k=3:=by omega
   refine go ?_
   try with_reducible rfl
   all_goals rfl
 ·replace hs:scrB x=false:=by simpa using hs
  rw [if_neg (by rw [hs];simp)]
  have hI:=fun {n:Nat}=>F_impl_IsScript (n:=n) hx
  rw [hs] at hI
  have fq12:=@hI
  refine go ?_
  try with_reducible rfl
  all_goals rfl
set_option maxHeartbeats 4000000 in
theorem F_spec_ComparePolicies {n:Nat} {x:Scr} (hx:x.room):callP cfg (n+69) 29 [.agg (scrA x)]=some ⟨.lst 6 (if scrB x=true then smL x 3 else []),[]⟩:=by
 rw [callP_succ]
 by_cases hs:scrB x=true
 ·rw [if_pos hs]
  have hI:=fun {n:Nat}=>F_spec_IsScript (n:=n) hx
  rw [hs] at hI
  have fq12:=@hI
  refine go ?_
  refine (evLoop_run (fun e k=>e.set 4 (.int .i64 (k:Int))) (fun h k=>h.set 3 (some ⟨false,false,false,ty48.size,smL x k⟩)) (fun _=>some ⟨.lst 6 (smL x 3),[]⟩) 3 (by decide) rfl ?_).trans rfl
  intro k f hk IH
  have fq12:=@hI
  by_cases hlt:k<3
  ·have hw:=wrapS (k:=k) (by omega)
   have b1:decide ((k:Int)≤2)=true:=decide_eq_true (by omega)
   have hok:=wp_ok (k:=(k:Int)) hs ⟨by omega,by omega⟩
   have hS:=fun {n:Nat}=>F_spec_SummaryOf (n:=n) (x:=wp x (k:Int)) hx
   rw [if_pos hok,hok,sumA_wp] at hS
   have fq11:=@hS
   have e3:decide (((smL x k).length+1)*48≤roomB)=true:=decide_eq_true (by rw [smL_len];show _≤140737488355328;omega)
   have fq1:=fun {n:Nat} {kk:Int}=>F_spec_WithPolicy (n:=n) (kk:=kk) hx
   have x1:=fun {x y:R}=>br_pos (x:=x) (y:=y) e3
   refine go ?_
   clear fq1 x1
   try with_reducible rfl
   exact IH hlt _ _ (by rw [hw];rfl) (by rw [smL_succ];rfl)
  ·have b1:decide ((k:Int)≤2)=false:=decide_eq_false (by omega)
   obtain rfl:k=3:=by omega
   refine go ?_
   try with_reducible rfl
   all_goals rfl
 ·replace hs:scrB x=false:=by simpa using hs
  rw [if_neg (by rw [hs];simp)]
  have hI:=fun {n:Nat}=>F_spec_IsScript (n:=n) hx
  rw [hs] at hI
  have fq12:=@hI
  refine go ?_
  refine (evLoop_run (fun e k=>e.set 4 (.int .i64 (k:Int))) (fun h _=>h) (fun _=>some ⟨.lst 6 [],[]⟩) 0 (by decide) rfl ?_).trans rfl
  intro k f hk IH
  obtain rfl:k=0:=by omega
  have fq12:=@hI
  refine go ?_
  try with_reducible rfl
  all_goals rfl
attribute [local irreducible] smL
noncomputable def bst (x:Scr):Nat→Nat
 | 0=>0
 | 1=>0
 | k+2=>if (smV x (k+1)).hi<(smV x (bst x (k+1))).hi then k+1 else bst x (k+1)
theorem bst_lt {x:Scr}:∀ {k:Nat},bst x (k+1)<k+1
 | 0=>by unfold bst;omega
 | k+1=>by
   have:=bst_lt (x:=x) (k:=k)
   unfold bst;split <;> omega
noncomputable def bRow (x:Scr):Nat→List AV
 | 0=>[.int .i64 (-1),.int .i64 0,.int .i64 0,.int .i64 0,.int .i64 0,.int .i64 0]
 | k+1=>smA (smV x (bst x (k+1)))
noncomputable def bIdx (x:Scr):Nat→Int
 | 0=>-1
 | k+1=>(bst x (k+1):Int)
theorem smV_p {x:Scr} {k:Nat}:(smV x k).p=(k:Int):=rfl
set_option maxHeartbeats 4000000 in
theorem F_impl_BestPolicy {n:Nat} {x:Scr} (hx:x.room):callP cfg (n+63) 35 [.agg (scrA x)]=some ⟨.int .i64 (if scrB x=true then bIdx x 3 else -1),[]⟩:=by
 rw [callP_succ]
 have hC:=fun {n:Nat}=>F_impl_ComparePolicies (n:=n) hx
 by_cases hs:scrB x=true
 ·rw [if_pos hs]
  rw [if_pos hs] at hC
  have fq12:=@hC
  refine go ?_
  refine (evLoop_run (fun e k=>e.set 10 (.int .i64 (k:Int))) (fun h k=>h.set 2 (some ⟨false,false,true,ty48.size,[bRow x k]⟩)) (fun _=>some ⟨.int .i64 (bIdx x 3),[]⟩) 3 (by decide) rfl ?_).trans rfl
  intro k f hk IH
  by_cases hlt:k<3
  ·rcases k with _ | k
   ·have e1:decide (((0:Nat):Int)<((smL x 3).length:Int))=true:=decide_eq_true (by rw [smL_len];omega)
    have e2:=nonneg (0)
    have r1:=smL_get (x:=x) (k:=3) (j:=0) (by omega)
    have hw:=wrapS (k:=0) (by omega)
    have b0:decide ((-1:Int)<0)=true:=rfl
    refine go ?_
    try with_reducible rfl
    exact IH (by omega) _ _ (by rw [hw];rfl) rfl
   ·have e1:decide (((k+1:Nat):Int)<((smL x 3).length:Int))=true:=decide_eq_true (by rw [smL_len];omega)
    have e2:=nonneg (k+1)
    have r1:=smL_get (x:=x) (k:=3) (j:=k+1) (by omega)
    have hw:=wrapS (k:=k+1) (by omega)
    have b0:decide ((smV x (bst x (k+1))).p<0)=false:=decide_eq_false (by rw [smV_p];omega)
    by_cases hh:(smV x (k+1)).hi<(smV x (bst x (k+1))).hi
    ·have b1:decide ((smV x (k+1)).hi<(smV x (bst x (k+1))).hi)=true:=decide_eq_true hh
     have hb:bRow x (k+1+1)=smA (smV x (k+1)):=congrArg (fun z=>smA (smV x z)) (if_pos hh)
     refine go ?_
     try with_reducible rfl
     exact IH (by omega) _ _ (by rw [hw];rfl) (by rw [hb];rfl)
    ·have b1:decide ((smV x (k+1)).hi<(smV x (bst x (k+1))).hi)=false:=decide_eq_false hh
     have hb:bRow x (k+1+1)=bRow x (k+1):=congrArg (fun z=>smA (smV x z)) (if_neg hh)
     refine go ?_
     try with_reducible rfl
     exact IH (by omega) _ _ (by rw [hw];rfl) (by rw [hb];rfl)
  ·obtain rfl:k=3:=by omega
   have e1:decide (((3:Nat):Int)<((smL x 3).length:Int))=false:=decide_eq_false (by rw [smL_len];omega)
   refine go ?_
   try with_reducible rfl
   all_goals rfl
 ·rw [if_neg hs]
  rw [if_neg hs] at hC
  have fq12:=@hC
  refine go ?_
  refine (evLoop_run (fun e _=>e) (fun h _=>h) (fun _=>some ⟨.int .i64 (-1),[]⟩) 0 (by decide) rfl ?_).trans rfl
  intro k f hk IH
  obtain rfl:k=0:=by omega
  refine go ?_
  try with_reducible rfl
  all_goals rfl
set_option maxHeartbeats 4000000 in
theorem F_spec_BestPolicy {n:Nat} {x:Scr} (hx:x.room):callP cfg (n+70) 34 [.agg (scrA x)]=some ⟨.int .i64 (if scrB x=true then bIdx x 3 else -1),[]⟩:=by
 rw [callP_succ]
 have hC:=fun {n:Nat}=>F_spec_ComparePolicies (n:=n) hx
 by_cases hs:scrB x=true
 ·rw [if_pos hs]
  rw [if_pos hs] at hC
  have fq12:=@hC
  refine go ?_
  refine (evLoop_run (fun e k=>(e.set 5 (.int .i64 (k:Int))).set 4 (.int .i64 (bIdx x k))) (fun h _=>h) (fun _=>some ⟨.int .i64 (bIdx x 3),[]⟩) 3 (by decide) rfl ?_).trans rfl
  intro k f hk IH
  by_cases hlt:k<3
  ·rcases k with _ | k
   ·have e1:decide (((0:Nat):Int)<((smL x 3).length:Int))=true:=decide_eq_true (by rw [smL_len];omega)
    have e2:=nonneg (0)
    have r1:=smL_get (x:=x) (k:=3) (j:=0) (by omega)
    have hw:=wrapS (k:=0) (by omega)
    have b0:decide ((-1:Int)<0)=true:=rfl
    refine goD ?_
    try with_reducible rfl
    exact IH (by omega) _ _ (by rw [hw];rfl) rfl
   ·have e1:decide (((k+1:Nat):Int)<((smL x 3).length:Int))=true:=decide_eq_true (by rw [smL_len];omega)
    have e2:=nonneg (k+1)
    have r1:=smL_get (x:=x) (k:=3) (j:=k+1) (by omega)
    have hw:=wrapS (k:=k+1) (by omega)
    have hbl:=bst_lt (x:=x) (k:=k)
    have b0:decide (bIdx x (k+1)<0)=false:=decide_eq_false (by show ¬((bst x (k+1):Nat):Int)<0;omega)
    have r2:(smL x 3)[(bIdx x (k+1)).toNat]?=some (smA (smV x (bst x (k+1)))):=smL_get (x:=x) (k:=3) (j:=bst x (k+1)) (by omega)
    have e3:decide (bIdx x (k+1)<((smL x 3).length:Int))=true:=decide_eq_true (by show ((bst x (k+1):Nat):Int)<_;rw [smL_len];omega)
    have e4:decide (0≤bIdx x (k+1))=true:=nonneg (bst x (k+1))
    by_cases hh:(smV x (k+1)).hi<(smV x (bst x (k+1))).hi
    ·have b1:decide ((smV x (k+1)).hi<(smV x (bst x (k+1))).hi)=true:=decide_eq_true hh
     have hb:bIdx x (k+1+1)=((k+1:Nat):Int):=congrArg (fun z:Nat=>(z:Int)) (if_pos hh)
     refine goD ?_
     try with_reducible rfl
     exact IH (by omega) _ _ (by rw [hw,hb];rfl) rfl
    ·have b1:decide ((smV x (k+1)).hi<(smV x (bst x (k+1))).hi)=false:=decide_eq_false hh
     have hb:bIdx x (k+1+1)=bIdx x (k+1):=congrArg (fun z:Nat=>(z:Int)) (if_neg hh)
     refine goD ?_
     try with_reducible rfl
     exact IH (by omega) _ _ (by rw [hw,hb];rfl) rfl
  ·obtain rfl:k=3:=by omega
   have e1:decide (((3:Nat):Int)<((smL x 3).length:Int))=false:=decide_eq_false (by rw [smL_len];omega)
   refine go ?_
   try with_reducible rfl
   all_goals rfl
 ·rw [if_neg hs]
  rw [if_neg hs] at hC
  have fq12:=@hC
  refine go ?_
  refine (evLoop_run (fun e _=>e) (fun h _=>h) (fun _=>some ⟨.int .i64 (-1),[]⟩) 0 (by decide) rfl ?_).trans rfl
  intro k f hk IH
  obtain rfl:k=0:=by omega
  refine go ?_
  try with_reducible rfl
  all_goals rfl
set_option maxHeartbeats 8000000 in
theorem F_laws_FnExactBestPolicy {n:Nat} {x:Scr} (hx:x.len):callP cfg (n+71) 7 [.agg (scrA x)]=some ⟨.bool true,[]⟩:=by
 rw [callP_succ]
 have z0:(0:Int)≤1048576:=by decide
 have z1:(1048576:Int)≤1048576:=by decide
 by_cases hz:szSc x 1048576<0
 ·have d:decide (szSc x 1048576<0)=true:=decide_eq_true hz
  have fq1:=fun {n:Nat}=>F_laws_szScript (n:=n) hx z0 z1
  refine go ?_
  clear fq1
  try with_reducible rfl
  all_goals rfl
 ·have d:decide (szSc x 1048576<0)=false:=decide_eq_false hz
  have hr:=szSc_room hz
  have hbb:∀ b:Int,(b !=b)=false:=fun b=>bne_f rfl
  have hb1:=hbb (if scrB x=true then bIdx x 3 else -1)
  have hxx:(!decide (x=x))=false:=by simp
  have fq1:=fun {n:Nat}=>F_laws_szScript (n:=n) hx z0 z1
  have fq2:=fun {n:Nat}=>F_laws_toScript (n:=n) hr
  have fq3:=fun {n:Nat} {b:Scr}=>F_laws_eqScript (n:=n) (b:=b) hx
  have fq4:=fun {n:Nat}=>F_impl_BestPolicy (n:=n) hr
  have fq5:=fun {n:Nat}=>F_spec_BestPolicy (n:=n) hr
  refine goD ?_
  clear fq1 fq2 fq3 fq4 fq5
  try with_reducible rfl
  all_goals rfl
end Go.Proofs.YtbploohjimpcaaaGreat.A
