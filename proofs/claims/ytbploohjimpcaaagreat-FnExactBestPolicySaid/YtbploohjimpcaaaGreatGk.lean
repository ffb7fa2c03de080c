/- What the program's functions answer (Gk): no condition. -/
import Derived.Test.YtbploohjimpcaaaGreatGi
import Derived.Test.YtbploohjimpcaaaGreatGj
set_option linter.unusedVariables false
set_option linter.unusedSimpArgs false
namespace Go.Proofs.YtbploohjimpcaaaGreat.A
open Go Go.Abs
set_option maxRecDepth 100000
theorem okRf {a b:List AV} (h:a=b):some (⟨.tup [],a⟩:Res)=some ⟨.tup [],b⟩:=by rw [h]
theorem cur_no {s:Sta} {h:Int} (hc:¬curB s h=true):isH h=false∨(isH h=true∧s.c.cap≤idxB h)∨(isH h=true∧idxB h<s.c.cap∧s.gens.getD (idxB h).toNat default≠genB h):=by
 unfold curB nodeB at hc
 by_cases h1:isH h=true
 ·by_cases h2:idxB h<s.c.cap
  ·refine .inr (.inr ⟨h1,h2,fun e=>hc ?_⟩)
   rw [h1,decide_eq_true h2,e]
   simp
  ·exact .inr (.inl ⟨h1,by omega⟩)
 ·exact .inl (by simpa using h1)
theorem cur_isH {s:Sta} {h:Int} (hc:curB s h=true):isH h=true:=by
 unfold curB nodeB at hc
 simp only [Bool.and_eq_true] at hc
 exact hc.1.1
theorem cur_gen {s:Sta} {h:Int} (hc:curB s h=true):s.gens.getD (idxB h).toNat default=genB h:=by
 unfold curB nodeB at hc
 simp only [Bool.and_eq_true] at hc
 exact by simpa using hc.2
theorem CV.cl6 {s:Sta} (H:CV s) {i:Int}:I64 (cl s i):=by
 unfold cl
 rw [List.getD_eq_getElem?_getD]
 cases h:s.cells[i.toNat]? with
 | none=>exact ⟨by decide,by decide⟩
 | some x=>exact H.i6 _ (List.mem_of_getElem? h)
theorem ld_m1 {s:Sta}:ld s (-1)=0:=by rw [ld_def,if_neg (by omega)]
theorem idx_nn {h:Int} (hh:isH h=true):0≤idxB h:=by
 unfold idxB
 rw [if_pos hh]
 have:=of_decide_eq_true hh
 omega
theorem wK_r {t:Th} (h:t.op.k=2):wKey t=t.op.key:=by unfold wKey;rw [if_pos h]
theorem wK_n {t:Th} (h:¬t.op.k=2) (hw:t.work=[]):wKey t=t.op.key:=by unfold wKey;rw [if_neg h,hw]
theorem wK_e {t:Th} {e:Ent} {w:List Ent} (h:¬t.op.k=2) (hw:t.work=e::w):wKey t=e.key:=by unfold wKey;rw [if_neg h,hw]
theorem F_spec_l12Reading {n:Nat} {a0 k a2 a3 a4 a5 a6 a7 a8 a9 a10 a11 a12 a13:Int} {found free limbo:List Int} {buf work:List Ent}:callP cfg (n+1) 291 [.agg [.int .i64 a0,.int .i64 k,.int .i64 a2,.int .i64 a3,.int .i64 a4,.int .i64 a5,.int .i64 a6,.int .i64 a7,.int .i64 a8,.int .i64 a9,.int .i64 a10,.int .i64 a11,.int .i64 a12,.int .i64 a13,intsA found,intsA free,entsA buf,entsA work,intsA limbo]]=some ⟨.bool (k==2),[]⟩:=by
 rw [callP_succ]
 refine go ?_
 try with_reducible rfl
theorem F_spec_IsNeeded {n:Nat} {e:Ent} {xs:List Int} (hx:xs.length≤1048576):callP cfg (n+1) 360 [.agg (entA e),intsA xs]=some ⟨.bool (ndB e xs),[]⟩:=by
 rw [callP_succ]
 refine go ?_
 refine (evLoop_run (fun e k=>e.set 5 (.int .i64 (k:Int))) (fun h _=>h) (fun k=>some ⟨.bool ((xs.drop k).any (fun x=>decide (e.lo≤x)&&decide (x<e.hi))),[]⟩) xs.length (by show _<18446744073709551616;omega) rfl ?_).trans rfl
 intro k f hk IH
 by_cases hlt:k<xs.length
 ·have e1:=lt_map (f:=iA) hlt
  have e2:=nonneg k
  have r1:=map_get (f:=iA) hlt
  have hw:=wrapS (k:=k) (by omega)
  rw [drop_cons hlt,List.any_cons]
  by_cases a1:e.lo≤(xs.getD k default)
  ·have b1:decide (e.lo≤(xs.getD k default))=true:=decide_eq_true a1
   by_cases a2:(xs.getD k default)<e.hi
   ·have b2:decide ((xs.getD k default)<e.hi)=true:=decide_eq_true a2
    have hv:(decide (e.lo≤(xs.getD k default))&&decide ((xs.getD k default)<e.hi))=true:=by rw [b1,b2];rfl
    rw [hv,Bool.true_or]
    refine go ?_
    try with_reducible rfl
    all_goals rfl
   ·have b2:decide ((xs.getD k default)<e.hi)=false:=decide_eq_false a2
    have hv:(decide (e.lo≤(xs.getD k default))&&decide ((xs.getD k default)<e.hi))=false:=by rw [b1,b2];rfl
    rw [hv,Bool.false_or]
    refine go ?_
    try with_reducible rfl
    exact IH hlt _ _ (by rw [hw];rfl) rfl
  ·have b1:decide (e.lo≤(xs.getD k default))=false:=decide_eq_false a1
   have hv:(decide (e.lo≤(xs.getD k default))&&decide ((xs.getD k default)<e.hi))=false:=by rw [b1];rfl
   rw [hv,Bool.false_or]
   refine go ?_
   try with_reducible rfl
   exact IH hlt _ _ (by rw [hw];rfl) rfl
 ·have e1:=nlt_map (f:=iA) (Nat.le_of_not_lt hlt)
  rw [List.drop_eq_nil_of_le (by omega)]
  refine go ?_
  try with_reducible rfl
  rfl
theorem F_spec_IsPast {n:Nat} {e:Ent} {xs:List Int} (hx:xs.length≤1048576):callP cfg (n+1) 361 [.agg (entA e),intsA xs]=some ⟨.bool (psB e xs),[]⟩:=by
 rw [callP_succ]
 refine go ?_
 refine (evLoop_run (fun e k=>e.set 5 (.int .i64 (k:Int))) (fun h _=>h) (fun k=>some ⟨.bool (!(xs.drop k).any (fun x=>decide (x<e.hi))),[]⟩) xs.length (by show _<18446744073709551616;omega) rfl ?_).trans rfl
 intro k f hk IH
 by_cases hlt:k<xs.length
 ·have e1:=lt_map (f:=iA) hlt
  have e2:=nonneg k
  have r1:=map_get (f:=iA) hlt
  have hw:=wrapS (k:=k) (by omega)
  rw [drop_cons hlt,List.any_cons]
  by_cases a2:(xs.getD k default)<e.hi
  ·have b2:decide ((xs.getD k default)<e.hi)=true:=decide_eq_true a2
   have hv:=b2
   rw [hv,Bool.true_or]
   refine go ?_
   try with_reducible rfl
   all_goals rfl
  ·have b2:decide ((xs.getD k default)<e.hi)=false:=decide_eq_false a2
   have hv:=b2
   rw [hv,Bool.false_or]
   refine go ?_
   try with_reducible rfl
   exact IH hlt _ _ (by rw [hw];rfl) rfl
 ·have e1:=nlt_map (f:=iA) (Nat.le_of_not_lt hlt)
  rw [List.drop_eq_nil_of_le (by omega)]
  refine go ?_
  try with_reducible rfl
  rfl
theorem F_spec_l8Has {n:Nat} {xs:List Int} {v:Int} (hx:xs.length≤1048576):callP cfg (n+1) 333 [intsA xs,.int .i64 v]=some ⟨.bool (xs.contains v),[]⟩:=by
 rw [callP_succ]
 rw [←any_con]
 refine go ?_
 refine (evLoop_run (fun e k=>e.set 5 (.int .i64 (k:Int))) (fun h _=>h) (fun k=>some ⟨.bool ((xs.drop k).any (fun x=>x==v)),[]⟩) xs.length (by show _<18446744073709551616;omega) rfl ?_).trans rfl
 intro k f hk IH
 by_cases hlt:k<xs.length
 ·have e1:=lt_map (f:=iA) hlt
  have e2:=nonneg k
  have r1:=map_get (f:=iA) hlt
  have hw:=wrapS (k:=k) (by omega)
  rw [drop_cons hlt,List.any_cons]
  by_cases a2:(xs.getD k default)=v
  ·have b2:((xs.getD k default)==v)=true:=beq_t a2
   have hv:=b2
   rw [hv,Bool.true_or]
   refine go ?_
   try with_reducible rfl
   all_goals rfl
  ·have b2:((xs.getD k default)==v)=false:=beq_f a2
   have hv:=b2
   rw [hv,Bool.false_or]
   refine go ?_
   try with_reducible rfl
   exact IH hlt _ _ (by rw [hw];rfl) rfl
 ·have e1:=nlt_map (f:=iA) (Nat.le_of_not_lt hlt)
  rw [List.drop_eq_nil_of_le (by omega)]
  refine go ?_
  try with_reducible rfl
  rfl
theorem F_spec_SplitEntries {n:Nat} {q key:Int} {xs:List Ent} {ann:List Int} (hx:xs.length≤1048576) (ha:ann.length≤1048576):callP cfg (n+2) 331 [.int .i64 q,.int .i64 key,entsA xs,intsA ann]=some ⟨.tup [entsA (xs.filter fun e=>!drpB q key ann e),entsA (xs.filter fun e=>drpB q key ann e)],[]⟩:=by
 rw [callP_succ]
 refine go ?_
 refine (evLoop_run (fun e k=>e.set 12 (.int .i64 (k:Int))) (fun h k=>(h.set 3 (some ⟨false,false,false,4,((xs.take k).filter fun e=>!drpB q key ann e).map entA⟩)).set 4 (some ⟨false,false,false,4,((xs.take k).filter fun e=>drpB q key ann e).map entA⟩)) (fun _=>some ⟨.tup [entsA (xs.filter fun e=>!drpB q key ann e),entsA (xs.filter fun e=>drpB q key ann e)],[]⟩) xs.length (by show _<18446744073709551616;omega) rfl ?_).trans rfl
 intro k f hk IH
 by_cases hlt:k<xs.length
 ·have e1:=lt_map (f:=entA) hlt
  have e2:=nonneg k
  have r1:=map_get (f:=entA) hlt
  have hw:=wrapS (k:=k) (by omega)
  by_cases hq:q=1
  ·have b1:(q==1)=true:=beq_t hq
   by_cases h1:ndB (xs.getD k default) ann=true
   ·by_cases h2:psB (xs.getD k default) ann=true
    ·have hd:drpB q key ann (xs.getD k default)=true:=by unfold drpB;rw [if_pos hq];exact h2
     have e5:decide (((((xs.take k).filter fun e=>drpB q key ann e).map entA).length+1)*32≤roomB)=true:=decide_eq_true (by rw [List.length_map];have:=flt_len (q:=fun e=>drpB q key ann e) (k:=k) hx;show _≤140737488355328;omega)
     have x1:=fun {x y:R}=>br_pos (x:=x) (y:=y) e5
     have fq1:=fun {n:Nat} {e:Ent}=>F_spec_IsNeeded (n:=n) (e:=e) ha
     have fq2:=fun {n:Nat} {e:Ent}=>F_spec_IsPast (n:=n) (e:=e) ha
     refine go ?_
     clear x1 fq1 fq2
     try with_reducible rfl
     refine IH hlt _ _ (by rw [hw];rfl) (by rw [take_flt (d:=default) hlt hd,take_fln (d:=default) hlt (by rw [hd];rfl),List.map_append];rfl)
    ·have h2:psB (xs.getD k default) ann=false:=by simpa using h2
     have hd:drpB q key ann (xs.getD k default)=false:=by unfold drpB;rw [if_pos hq];exact h2
     have e5:decide (((((xs.take k).filter fun e=>!drpB q key ann e).map entA).length+1)*32≤roomB)=true:=decide_eq_true (by rw [List.length_map];have:=flt_len (q:=fun e=>!drpB q key ann e) (k:=k) hx;show _≤140737488355328;omega)
     have x1:=fun {x y:R}=>br_pos (x:=x) (y:=y) e5
     have fq1:=fun {n:Nat} {e:Ent}=>F_spec_IsNeeded (n:=n) (e:=e) ha
     have fq2:=fun {n:Nat} {e:Ent}=>F_spec_IsPast (n:=n) (e:=e) ha
     refine go ?_
     clear x1 fq1 fq2
     try with_reducible rfl
     refine IH hlt _ _ (by rw [hw];rfl) (by rw [take_fln (d:=default) hlt hd,take_flt (d:=default) hlt (by rw [hd];rfl),List.map_append];rfl)
   ·have h1:ndB (xs.getD k default) ann=false:=by simpa using h1
    by_cases h2:psB (xs.getD k default) ann=true
    ·have hd:drpB q key ann (xs.getD k default)=true:=by unfold drpB;rw [if_pos hq];exact h2
     have e5:decide (((((xs.take k).filter fun e=>drpB q key ann e).map entA).length+1)*32≤roomB)=true:=decide_eq_true (by rw [List.length_map];have:=flt_len (q:=fun e=>drpB q key ann e) (k:=k) hx;show _≤140737488355328;omega)
     have x1:=fun {x y:R}=>br_pos (x:=x) (y:=y) e5
     have fq1:=fun {n:Nat} {e:Ent}=>F_spec_IsNeeded (n:=n) (e:=e) ha
     have fq2:=fun {n:Nat} {e:Ent}=>F_spec_IsPast (n:=n) (e:=e) ha
     refine go ?_
     clear x1 fq1 fq2
     try with_reducible rfl
     refine IH hlt _ _ (by rw [hw];rfl) (by rw [take_flt (d:=default) hlt hd,take_fln (d:=default) hlt (by rw [hd];rfl),List.map_append];rfl)
    ·have h2:psB (xs.getD k default) ann=false:=by simpa using h2
     have hd:drpB q key ann (xs.getD k default)=false:=by unfold drpB;rw [if_pos hq];exact h2
     have e5:decide (((((xs.take k).filter fun e=>!drpB q key ann e).map entA).length+1)*32≤roomB)=true:=decide_eq_true (by rw [List.length_map];have:=flt_len (q:=fun e=>!drpB q key ann e) (k:=k) hx;show _≤140737488355328;omega)
     have x1:=fun {x y:R}=>br_pos (x:=x) (y:=y) e5
     have fq1:=fun {n:Nat} {e:Ent}=>F_spec_IsNeeded (n:=n) (e:=e) ha
     have fq2:=fun {n:Nat} {e:Ent}=>F_spec_IsPast (n:=n) (e:=e) ha
     refine go ?_
     clear x1 fq1 fq2
     try with_reducible rfl
     refine IH hlt _ _ (by rw [hw];rfl) (by rw [take_fln (d:=default) hlt hd,take_flt (d:=default) hlt (by rw [hd];rfl),List.map_append];rfl)
  ·have b1:(q==1)=false:=beq_f hq
   by_cases hq2:q=2
   ·have b2:(q==2)=true:=beq_t hq2
    by_cases h1:ndB (xs.getD k default) ann=true
    ·have hd:drpB q key ann (xs.getD k default)=false:=by unfold drpB;rw [if_neg hq,if_pos hq2];simp_all
     have e5:decide (((((xs.take k).filter fun e=>!drpB q key ann e).map entA).length+1)*32≤roomB)=true:=decide_eq_true (by rw [List.length_map];have:=flt_len (q:=fun e=>!drpB q key ann e) (k:=k) hx;show _≤140737488355328;omega)
     have x1:=fun {x y:R}=>br_pos (x:=x) (y:=y) e5
     have fq1:=fun {n:Nat} {e:Ent}=>F_spec_IsNeeded (n:=n) (e:=e) ha
     refine go ?_
     clear x1 fq1
     try with_reducible rfl
     refine IH hlt _ _ (by rw [hw];rfl) (by rw [take_fln (d:=default) hlt hd,take_flt (d:=default) hlt (by rw [hd];rfl),List.map_append];rfl)
    ·have h1:ndB (xs.getD k default) ann=false:=by simpa using h1
     by_cases h3:key<0
     ·have hd:drpB q key ann (xs.getD k default)=true:=by unfold drpB;rw [if_neg hq,if_pos hq2];simp_all
      have h4:decide (key<0)=true:=decide_eq_true h3
      have e5:decide (((((xs.take k).filter fun e=>drpB q key ann e).map entA).length+1)*32≤roomB)=true:=decide_eq_true (by rw [List.length_map];have:=flt_len (q:=fun e=>drpB q key ann e) (k:=k) hx;show _≤140737488355328;omega)
      have x1:=fun {x y:R}=>br_pos (x:=x) (y:=y) e5
      have fq1:=fun {n:Nat} {e:Ent}=>F_spec_IsNeeded (n:=n) (e:=e) ha
      refine go ?_
      clear x1 fq1
      try with_reducible rfl
      refine IH hlt _ _ (by rw [hw];rfl) (by rw [take_flt (d:=default) hlt hd,take_fln (d:=default) hlt (by rw [hd];rfl),List.map_append];rfl)
     ·have h4:decide (key<0)=false:=decide_eq_false h3
      by_cases h5:key=(xs.getD k default).key
      ·have hd:drpB q key ann (xs.getD k default)=true:=by unfold drpB;rw [if_neg hq,if_pos hq2];simp_all
       have h6:((xs.getD k default).key==key)=true:=beq_t h5.symm
       have e5:decide (((((xs.take k).filter fun e=>drpB q key ann e).map entA).length+1)*32≤roomB)=true:=decide_eq_true (by rw [List.length_map];have:=flt_len (q:=fun e=>drpB q key ann e) (k:=k) hx;show _≤140737488355328;omega)
       have x1:=fun {x y:R}=>br_pos (x:=x) (y:=y) e5
       have fq1:=fun {n:Nat} {e:Ent}=>F_spec_IsNeeded (n:=n) (e:=e) ha
       refine go ?_
       clear x1 fq1
       try with_reducible rfl
       refine IH hlt _ _ (by rw [hw];rfl) (by rw [take_flt (d:=default) hlt hd,take_fln (d:=default) hlt (by rw [hd];rfl),List.map_append];rfl)
      ·have hd:drpB q key ann (xs.getD k default)=false:=by unfold drpB;rw [if_neg hq,if_pos hq2];simp_all
       have h6:((xs.getD k default).key==key)=false:=beq_f (fun e=>h5 e.symm)
       have e5:decide (((((xs.take k).filter fun e=>!drpB q key ann e).map entA).length+1)*32≤roomB)=true:=decide_eq_true (by rw [List.length_map];have:=flt_len (q:=fun e=>!drpB q key ann e) (k:=k) hx;show _≤140737488355328;omega)
       have x1:=fun {x y:R}=>br_pos (x:=x) (y:=y) e5
       have fq1:=fun {n:Nat} {e:Ent}=>F_spec_IsNeeded (n:=n) (e:=e) ha
       refine go ?_
       clear x1 fq1
       try with_reducible rfl
       refine IH hlt _ _ (by rw [hw];rfl) (by rw [take_fln (d:=default) hlt hd,take_flt (d:=default) hlt (by rw [hd];rfl),List.map_append];rfl)
   ·have b2:(q==2)=false:=beq_f hq2
    by_cases h1:ndB (xs.getD k default) ann=true
    ·have hd:drpB q key ann (xs.getD k default)=false:=by unfold drpB;rw [if_neg hq,if_neg hq2,h1];rfl
     have e5:decide (((((xs.take k).filter fun e=>!drpB q key ann e).map entA).length+1)*32≤roomB)=true:=decide_eq_true (by rw [List.length_map];have:=flt_len (q:=fun e=>!drpB q key ann e) (k:=k) hx;show _≤140737488355328;omega)
     have x1:=fun {x y:R}=>br_pos (x:=x) (y:=y) e5
     have fq1:=fun {n:Nat} {e:Ent}=>F_spec_IsNeeded (n:=n) (e:=e) ha
     refine go ?_
     clear x1 fq1
     try with_reducible rfl
     refine IH hlt _ _ (by rw [hw];rfl) (by rw [take_fln (d:=default) hlt hd,take_flt (d:=default) hlt (by rw [hd];rfl),List.map_append];rfl)
    ·have h1:ndB (xs.getD k default) ann=false:=by simpa using h1
     have hd:drpB q key ann (xs.getD k default)=true:=by unfold drpB;rw [if_neg hq,if_neg hq2,h1];rfl
     have e5:decide (((((xs.take k).filter fun e=>drpB q key ann e).map entA).length+1)*32≤roomB)=true:=decide_eq_true (by rw [List.length_map];have:=flt_len (q:=fun e=>drpB q key ann e) (k:=k) hx;show _≤140737488355328;omega)
     have x1:=fun {x y:R}=>br_pos (x:=x) (y:=y) e5
     have fq1:=fun {n:Nat} {e:Ent}=>F_spec_IsNeeded (n:=n) (e:=e) ha
     refine go ?_
     clear x1 fq1
     try with_reducible rfl
     refine IH hlt _ _ (by rw [hw];rfl) (by rw [take_flt (d:=default) hlt hd,take_fln (d:=default) hlt (by rw [hd];rfl),List.map_append];rfl)
 ·have e1:=nlt_map (f:=entA) (Nat.le_of_not_lt hlt)
  have hall:xs.take k=xs:=List.take_of_length_le (by omega)
  rw [hall]
  refine go ?_
  try with_reducible rfl
theorem F_spec_SplitLimbo {n:Nat} {xs fs:List Int} (hx:xs.length≤1048576) (hf:fs.length≤1048576):callP cfg (n+2) 297 [intsA xs,intsA fs]=some ⟨.tup [intsA (xs.filter fun h=>fs.contains h),intsA (xs.filter fun h=>!fs.contains h)],[]⟩:=by
 rw [callP_succ]
 refine go ?_
 refine (evLoop_run (fun e k=>e.set 8 (.int .i64 (k:Int))) (fun h k=>(h.set 3 (some ⟨false,false,false,1,((xs.take k).filter fun h=>fs.contains h).map iA⟩)).set 4 (some ⟨false,false,false,1,((xs.take k).filter fun h=>!fs.contains h).map iA⟩)) (fun _=>some ⟨.tup [intsA (xs.filter fun h=>fs.contains h),intsA (xs.filter fun h=>!fs.contains h)],[]⟩) xs.length (by show _<18446744073709551616;omega) rfl ?_).trans rfl
 intro k f hk IH
 by_cases hlt:k<xs.length
 ·have e1:=lt_map (f:=iA) hlt
  have e2:=nonneg k
  have r1:=map_get (f:=iA) hlt
  have hw:=wrapS (k:=k) (by omega)
  by_cases hb:fs.contains (xs.getD k default)=true
  ·have b1:fs.contains (xs.getD k default)=true:=hb
   have e5:decide (((((xs.take k).filter fun h=>fs.contains h).map iA).length+1)*8≤roomB)=true:=decide_eq_true (by rw [List.length_map];have:=flt_len (q:=fun h=>fs.contains h) (k:=k) hx;show _≤140737488355328;omega)
   have x1:=fun {x y:R}=>br_pos (x:=x) (y:=y) e5
   have fq1:=fun {n:Nat} {v:Int}=>F_spec_l8Has (n:=n) (v:=v) hf
   refine go ?_
   clear x1 fq1
   try with_reducible rfl
   refine IH hlt _ _ (by rw [hw];rfl) (by rw [take_flt (q:=fun h=>fs.contains h) (d:=default) hlt b1,take_fln (q:=fun h=>!fs.contains h) (d:=default) hlt (by rw [b1];rfl),List.map_append];rfl)
  ·have b1:fs.contains (xs.getD k default)=false:=by simpa using hb
   have e5:decide (((((xs.take k).filter fun h=>!fs.contains h).map iA).length+1)*8≤roomB)=true:=decide_eq_true (by rw [List.length_map];have:=flt_len (q:=fun h=>!fs.contains h) (k:=k) hx;show _≤140737488355328;omega)
   have x1:=fun {x y:R}=>br_pos (x:=x) (y:=y) e5
   have fq1:=fun {n:Nat} {v:Int}=>F_spec_l8Has (n:=n) (v:=v) hf
   refine go ?_
   clear x1 fq1
   try with_reducible rfl
   refine IH hlt _ _ (by rw [hw];rfl) (by rw [take_fln (q:=fun h=>fs.contains h) (d:=default) hlt b1,take_flt (q:=fun h=>!fs.contains h) (d:=default) hlt (by rw [b1];rfl),List.map_append];rfl)
 ·have e1:=nlt_map (f:=iA) (Nat.le_of_not_lt hlt)
  have hall:xs.take k=xs:=List.take_of_length_le (by omega)
  rw [hall]
  refine go ?_
  try with_reducible rfl
theorem F_spec_MustFlush {n:Nat} {pk:Int} {c:Cf} {t:Th} (hc:isCfB c=true) (ht:t.buf.length≤1048576):callP cfg (n+3) 292 [.agg (cfA c),.agg (thR pk t)]=some ⟨.bool (mustF c t),[]⟩:=by
 rw [callP_succ]
 unfold mustF
 by_cases h:c.p=2
 ·have b:(c.p !=2)=false:=bne_f h
  rw [if_pos h]
  have fq1:=@F_spec_IsConfig
  refine go ?_
  clear fq1
  refine (evLoop_run (fun e k=>e.set 5 (.int .i64 (k:Int))) (fun h _=>h) (fun k=>some ⟨.bool ((t.buf.drop k).any (fun e=>decide (e.key=t.op.key))),[]⟩) t.buf.length (by show _<18446744073709551616;omega) rfl ?_).trans rfl
  intro k f hk IH
  by_cases hlt:k<t.buf.length
  ·have e1:=lt_map (f:=entA) hlt
   have e2:=nonneg k
   have r1:=map_get (f:=entA) hlt
   have hw:=wrapS (k:=k) (by omega)
   rw [drop_cons hlt,List.any_cons]
   by_cases a2:(t.buf.getD k default).key=t.op.key
   ·have b2:((t.buf.getD k default).key==t.op.key)=true:=beq_t a2
    have hv:decide ((t.buf.getD k default).key=t.op.key)=true:=decide_eq_true a2
    rw [hv,Bool.true_or]
    refine go ?_
    try with_reducible rfl
    all_goals rfl
   ·have b2:((t.buf.getD k default).key==t.op.key)=false:=beq_f a2
    have hv:decide ((t.buf.getD k default).key=t.op.key)=false:=decide_eq_false a2
    rw [hv,Bool.false_or]
    refine go ?_
    try with_reducible rfl
    exact IH hlt _ _ (by rw [hw];rfl) rfl
  ·have e1:=nlt_map (f:=entA) (Nat.le_of_not_lt hlt)
   rw [List.drop_eq_nil_of_le (by omega)]
   refine go ?_
   try with_reducible rfl
   rfl
 ·have b:(c.p !=2)=true:=bne_t h
  rw [if_neg h]
  have fq1:=@F_spec_IsConfig
  refine go ?_
  clear fq1
  try with_reducible rfl
  simp only [List.length_map]
theorem sk50r_a {s:Sta} {p:Nat} (hLd:ldL s.cells (annB s.c (s.th p).pos)=cl s (annB s.c (s.th p).pos)) (h1:(s.th p).pos+1<s.c.th) (h0:cl s (annB s.c (s.th p).pos)=0):sk50 s p (s.th p)=setT s p {s.th p with found:=(s.th p).found,pos:=(s.th p).pos+1}:=sk50_a h1 (by rw [hLd];exact h0)
theorem sk50r_b {s:Sta} {p:Nat} (hLd:ldL s.cells (annB s.c (s.th p).pos)=cl s (annB s.c (s.th p).pos)) (h1:(s.th p).pos+1<s.c.th) (h0:¬cl s (annB s.c (s.th p).pos)=0):sk50 s p (s.th p)=setT s p {s.th p with found:=(s.th p).found++[cl s (annB s.c (s.th p).pos)],pos:=(s.th p).pos+1}:=by
 have:=sk50_b h1 (by rw [hLd];exact h0)
 rw [hLd] at this
 exact this
theorem sk50r_dkn {s:Sta} {p:Nat} (hLd:ldL s.cells (annB s.c (s.th p).pos)=cl s (annB s.c (s.th p).pos)) (h1:¬(s.th p).pos+1<s.c.th) (hk5:¬(s.th p).op.k=5) (h0:¬cl s (annB s.c (s.th p).pos)=0) (hwl:¬(s.th p).work.length+((s.th p).buf.filter fun e=>drpB s.c.p (s.th p).op.key ((s.th p).found++[cl s (annB s.c (s.th p).pos)]) e).length=0):sk50 s p (s.th p)=setT s p {s.th p with found:=((s.th p).found++[cl s (annB s.c (s.th p).pos)]),pos:=(s.th p).pos+1,buf:=((s.th p).buf.filter fun e=>!drpB s.c.p (s.th p).op.key ((s.th p).found++[cl s (annB s.c (s.th p).pos)]) e),work:=(s.th p).work++((s.th p).buf.filter fun e=>drpB s.c.p (s.th p).op.key ((s.th p).found++[cl s (annB s.c (s.th p).pos)]) e),pc:=60}:=by
 have:=sk50_dkn h1 hk5 (by rw [hLd];exact h0) (by rw [hLd];exact hwl)
 rw [hLd] at this
 exact this
theorem sk50r_ekn {s:Sta} {p:Nat} (hLd:ldL s.cells (annB s.c (s.th p).pos)=cl s (annB s.c (s.th p).pos)) (h1:¬(s.th p).pos+1<s.c.th) (hk5:¬(s.th p).op.k=5) (h0:¬cl s (annB s.c (s.th p).pos)=0) (hwl:(s.th p).work.length+((s.th p).buf.filter fun e=>drpB s.c.p (s.th p).op.key ((s.th p).found++[cl s (annB s.c (s.th p).pos)]) e).length=0):sk50 s p (s.th p)=setT s p (fin s.c {s.th p with found:=((s.th p).found++[cl s (annB s.c (s.th p).pos)]),pos:=(s.th p).pos+1,buf:=((s.th p).buf.filter fun e=>!drpB s.c.p (s.th p).op.key ((s.th p).found++[cl s (annB s.c (s.th p).pos)]) e),work:=(s.th p).work++((s.th p).buf.filter fun e=>drpB s.c.p (s.th p).op.key ((s.th p).found++[cl s (annB s.c (s.th p).pos)]) e),pc:=60}):=by
 have:=sk50_ekn h1 hk5 (by rw [hLd];exact h0) (by rw [hLd];exact hwl)
 rw [hLd] at this
 exact this
theorem sk50r_d5n {s:Sta} {p:Nat} (hLd:ldL s.cells (annB s.c (s.th p).pos)=cl s (annB s.c (s.th p).pos)) (h1:¬(s.th p).pos+1<s.c.th) (hk5:(s.th p).op.k=5) (h0:¬cl s (annB s.c (s.th p).pos)=0) (hwl:¬(s.th p).work.length+((s.th p).buf.filter fun e=>drpB s.c.p (-1) ((s.th p).found++[cl s (annB s.c (s.th p).pos)]) e).length=0):sk50 s p (s.th p)=setT s p {s.th p with found:=((s.th p).found++[cl s (annB s.c (s.th p).pos)]),pos:=(s.th p).pos+1,buf:=((s.th p).buf.filter fun e=>!drpB s.c.p (-1) ((s.th p).found++[cl s (annB s.c (s.th p).pos)]) e),work:=(s.th p).work++((s.th p).buf.filter fun e=>drpB s.c.p (-1) ((s.th p).found++[cl s (annB s.c (s.th p).pos)]) e),pc:=60}:=by
 have:=sk50_d5n h1 hk5 (by rw [hLd];exact h0) (by rw [hLd];exact hwl)
 rw [hLd] at this
 exact this
theorem sk50r_e5n {s:Sta} {p:Nat} (hLd:ldL s.cells (annB s.c (s.th p).pos)=cl s (annB s.c (s.th p).pos)) (h1:¬(s.th p).pos+1<s.c.th) (hk5:(s.th p).op.k=5) (h0:¬cl s (annB s.c (s.th p).pos)=0) (hwl:(s.th p).work.length+((s.th p).buf.filter fun e=>drpB s.c.p (-1) ((s.th p).found++[cl s (annB s.c (s.th p).pos)]) e).length=0):sk50 s p (s.th p)=setT s p (fin s.c {s.th p with found:=((s.th p).found++[cl s (annB s.c (s.th p).pos)]),pos:=(s.th p).pos+1,buf:=((s.th p).buf.filter fun e=>!drpB s.c.p (-1) ((s.th p).found++[cl s (annB s.c (s.th p).pos)]) e),work:=(s.th p).work++((s.th p).buf.filter fun e=>drpB s.c.p (-1) ((s.th p).found++[cl s (annB s.c (s.th p).pos)]) e),pc:=60}):=by
 have:=sk50_e5n h1 hk5 (by rw [hLd];exact h0) (by rw [hLd];exact hwl)
 rw [hLd] at this
 exact this
theorem sk50r_dkz {s:Sta} {p:Nat} (hLd:ldL s.cells (annB s.c (s.th p).pos)=cl s (annB s.c (s.th p).pos)) (h1:¬(s.th p).pos+1<s.c.th) (hk5:¬(s.th p).op.k=5) (h0:cl s (annB s.c (s.th p).pos)=0) (hwl:¬(s.th p).work.length+((s.th p).buf.filter fun e=>drpB s.c.p (s.th p).op.key (s.th p).found e).length=0):sk50 s p (s.th p)=setT s p {s.th p with found:=(s.th p).found,pos:=(s.th p).pos+1,buf:=((s.th p).buf.filter fun e=>!drpB s.c.p (s.th p).op.key (s.th p).found e),work:=(s.th p).work++((s.th p).buf.filter fun e=>drpB s.c.p (s.th p).op.key (s.th p).found e),pc:=60}:=sk50_dkz h1 hk5 (by rw [hLd];exact h0) hwl
theorem sk50r_ekz {s:Sta} {p:Nat} (hLd:ldL s.cells (annB s.c (s.th p).pos)=cl s (annB s.c (s.th p).pos)) (h1:¬(s.th p).pos+1<s.c.th) (hk5:¬(s.th p).op.k=5) (h0:cl s (annB s.c (s.th p).pos)=0) (hwl:(s.th p).work.length+((s.th p).buf.filter fun e=>drpB s.c.p (s.th p).op.key (s.th p).found e).length=0):sk50 s p (s.th p)=setT s p (fin s.c {s.th p with found:=(s.th p).found,pos:=(s.th p).pos+1,buf:=((s.th p).buf.filter fun e=>!drpB s.c.p (s.th p).op.key (s.th p).found e),work:=(s.th p).work++((s.th p).buf.filter fun e=>drpB s.c.p (s.th p).op.key (s.th p).found e),pc:=60}):=sk50_ekz h1 hk5 (by rw [hLd];exact h0) hwl
theorem sk50r_d5z {s:Sta} {p:Nat} (hLd:ldL s.cells (annB s.c (s.th p).pos)=cl s (annB s.c (s.th p).pos)) (h1:¬(s.th p).pos+1<s.c.th) (hk5:(s.th p).op.k=5) (h0:cl s (annB s.c (s.th p).pos)=0) (hwl:¬(s.th p).work.length+((s.th p).buf.filter fun e=>drpB s.c.p (-1) (s.th p).found e).length=0):sk50 s p (s.th p)=setT s p {s.th p with found:=(s.th p).found,pos:=(s.th p).pos+1,buf:=((s.th p).buf.filter fun e=>!drpB s.c.p (-1) (s.th p).found e),work:=(s.th p).work++((s.th p).buf.filter fun e=>drpB s.c.p (-1) (s.th p).found e),pc:=60}:=sk50_d5z h1 hk5 (by rw [hLd];exact h0) hwl
theorem sk50r_e5z {s:Sta} {p:Nat} (hLd:ldL s.cells (annB s.c (s.th p).pos)=cl s (annB s.c (s.th p).pos)) (h1:¬(s.th p).pos+1<s.c.th) (hk5:(s.th p).op.k=5) (h0:cl s (annB s.c (s.th p).pos)=0) (hwl:(s.th p).work.length+((s.th p).buf.filter fun e=>drpB s.c.p (-1) (s.th p).found e).length=0):sk50 s p (s.th p)=setT s p (fin s.c {s.th p with found:=(s.th p).found,pos:=(s.th p).pos+1,buf:=((s.th p).buf.filter fun e=>!drpB s.c.p (-1) (s.th p).found e),work:=(s.th p).work++((s.th p).buf.filter fun e=>drpB s.c.p (-1) (s.th p).found e),pc:=60}):=sk50_e5z h1 hk5 (by rw [hLd];exact h0) hwl
theorem sk70r_a {s:Sta} {p:Nat} (hLd:ldL s.cells (hazB s.c ((s.th p).pos / 2) ((s.th p).pos % 2))=cl s (hazB s.c ((s.th p).pos / 2) ((s.th p).pos % 2))) (h1:(s.th p).pos+1<2*s.c.th) (h0:cl s (hazB s.c ((s.th p).pos / 2) ((s.th p).pos % 2))=0):sk70 s p (s.th p)=setT s p {s.th p with found:=(s.th p).found,pos:=(s.th p).pos+1}:=sk70_a h1 (by rw [hLd];exact h0)
theorem sk70r_b {s:Sta} {p:Nat} (hLd:ldL s.cells (hazB s.c ((s.th p).pos / 2) ((s.th p).pos % 2))=cl s (hazB s.c ((s.th p).pos / 2) ((s.th p).pos % 2))) (h1:(s.th p).pos+1<2*s.c.th) (h0:¬cl s (hazB s.c ((s.th p).pos / 2) ((s.th p).pos % 2))=0):sk70 s p (s.th p)=setT s p {s.th p with found:=(s.th p).found++[cl s (hazB s.c ((s.th p).pos / 2) ((s.th p).pos % 2))],pos:=(s.th p).pos+1}:=by
 have:=sk70_b h1 (by rw [hLd];exact h0)
 rw [hLd] at this
 exact this
theorem sk70r_c {s:Sta} {p:Nat} (hLd:ldL s.cells (hazB s.c ((s.th p).pos / 2) ((s.th p).pos % 2))=cl s (hazB s.c ((s.th p).pos / 2) ((s.th p).pos % 2))) (h1:¬(s.th p).pos+1<2*s.c.th) (h0:cl s (hazB s.c ((s.th p).pos / 2) ((s.th p).pos % 2))=0):sk70 s p (s.th p)=setT {s with gens:=(((s.th p).limbo.filter fun h=>!(s.th p).found.contains h).foldl freeF (s.gens,(s.th p).free)).1} p (endT {s.th p with limbo:=(s.th p).limbo.filter fun h=>(s.th p).found.contains h,free:=(((s.th p).limbo.filter fun h=>!(s.th p).found.contains h).foldl freeF (s.gens,(s.th p).free)).2} ⟨0,0⟩):=sk70_c h1 (by rw [hLd];exact h0)
theorem sk70r_d {s:Sta} {p:Nat} (hLd:ldL s.cells (hazB s.c ((s.th p).pos / 2) ((s.th p).pos % 2))=cl s (hazB s.c ((s.th p).pos / 2) ((s.th p).pos % 2))) (h1:¬(s.th p).pos+1<2*s.c.th) (h0:¬cl s (hazB s.c ((s.th p).pos / 2) ((s.th p).pos % 2))=0):sk70 s p (s.th p)=setT {s with gens:=(((s.th p).limbo.filter fun h=>!((s.th p).found++[cl s (hazB s.c ((s.th p).pos / 2) ((s.th p).pos % 2))]).contains h).foldl freeF (s.gens,(s.th p).free)).1} p (endT {s.th p with limbo:=(s.th p).limbo.filter fun h=>((s.th p).found++[cl s (hazB s.c ((s.th p).pos / 2) ((s.th p).pos % 2))]).contains h,free:=(((s.th p).limbo.filter fun h=>!((s.th p).found++[cl s (hazB s.c ((s.th p).pos / 2) ((s.th p).pos % 2))]).contains h).foldl freeF (s.gens,(s.th p).free)).2} ⟨0,0⟩):=by
 have:=sk70_d h1 (by rw [hLd];exact h0)
 rw [hLd] at this
 exact this
theorem split_appR {n:Nat} {q key y:Int} {xs:List Ent} {ann:List Int} {r:Nat} {pth:Path} (hx:xs.length≤1048576) (ha:ann.length≤1048575):callP cfg (n+2) 331 [.int .i64 q,.int .i64 key,entsA xs,.lst 1 (isCut (.ref r pth) (ann.map iA)++[[.int .i64 y]])]=some ⟨.tup [entsA (xs.filter fun e=>!drpB q key (ann++[y]) e),entsA (xs.filter fun e=>drpB q key (ann++[y]) e)],[]⟩:=by
 have:=F_spec_SplitEntries (n:=n) (q:=q) (key:=key) (xs:=xs) (ann:=ann++[y]) hx (by rw [List.length_append];simp only [List.length_cons,List.length_nil];omega)
 rw [intsA,List.map_append] at this
 exact this
theorem limbo_appR {n:Nat} {y:Int} {xs fs:List Int} {r:Nat} {pth:Path} (hx:xs.length≤1048576) (hf:fs.length≤1048575):callP cfg (n+2) 297 [intsA xs,.lst 1 (isCut (.ref r pth) (fs.map iA)++[[.int .i64 y]])]=some ⟨.tup [intsA (xs.filter fun h=>(fs++[y]).contains h),intsA (xs.filter fun h=>!(fs++[y]).contains h)],[]⟩:=by
 have:=F_spec_SplitLimbo (n:=n) (xs:=xs) (fs:=fs++[y]) hx (by rw [List.length_append];simp only [List.length_cons,List.length_nil];omega)
 rw [intsA,intsA,List.map_append] at this
 exact this
end Go.Proofs.YtbploohjimpcaaaGreat.A
