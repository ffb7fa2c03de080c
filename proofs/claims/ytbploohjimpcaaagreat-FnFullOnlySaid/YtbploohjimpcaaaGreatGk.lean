/- What the program's functions answer (Gk): no condition. -/
import Derived.Test.YtbploohjimpcaaaGreatGi
import Derived.Test.YtbploohjimpcaaaGreatGj
set_option linter.unusedVariables false
set_option linter.unusedSimpArgs false
namespace Go.Proofs.YtbploohjimpcaaaGreat.A
open Go Go.Abs
set_option maxRecDepth 100000
theorem okRf {a b:List AV} (h:a=b):some (⟨.tup [],a⟩:Res)=some ⟨.tup [],b⟩:=by rw [h]
theorem Qj {s:Sta} {h:Int} (hc:¬curB s h=true):isH h=false∨(isH h=true∧s.c.cap≤idxB h)∨(isH h=true∧idxB h<s.c.cap∧s.gens.getD (idxB h).toNat default≠genB h):=by
 unfold curB Y4 at hc
 by_cases h1:isH h=true
 ·by_cases h2:idxB h<s.c.cap
  ·refine .inr (.inr ⟨h1,h2,fun e=>hc ?_⟩)
   rw [h1,decide_eq_true h2,e]
   simp
  ·exact .inr (.inl ⟨h1,by omega⟩)
 ·exact .inl (by simpa using h1)
theorem Wz {s:Sta} {h:Int} (hc:curB s h=true):isH h=true:=by
 unfold curB Y4 at hc
 simp only [Bool.and_eq_true] at hc
 exact hc.1.1
theorem W0 {s:Sta} {h:Int} (hc:curB s h=true):s.gens.getD (idxB h).toNat default=genB h:=by
 unfold curB Y4 at hc
 simp only [Bool.and_eq_true] at hc
 exact by simpa using hc.2
theorem CV.cl6 {s:Sta} (H:CV s) {i:Int}:I64 (cl s i):=by
 unfold cl
 rw [List.getD_eq_getElem?_getD]
 cases h:s.cells[i.toNat]? with
 | none=>exact ⟨by decide,by decide⟩
 | some x=>exact H.i6 _ (List.mem_of_getElem? h)
theorem Wi {s:Sta}:ld s (-1)=0:=by rw [Xfw,if_neg (by omega)]
theorem Qk {h:Int} (hh:isH h=true):0≤idxB h:=by
 unfold idxB
 rw [if_pos hh]
 have:=of_decide_eq_true hh
 omega
theorem wK_r {t:Th} (h:t.op.k=2):wKey t=t.op.key:=by unfold wKey;rw [if_pos h]
theorem wK_n {t:Th} (h:¬t.op.k=2) (hw:t.work=[]):wKey t=t.op.key:=by unfold wKey;rw [if_neg h,hw]
theorem wK_e {t:Th} {e:Ent} {w:List Ent} (h:¬t.op.k=2) (hw:t.work=e::w):wKey t=e.key:=by unfold wKey;rw [if_neg h,hw]
theorem Xiw {n:Nat} {a0 k a2 a3 a4 a5 a6 a7 a8 a9 a10 a11 a12 a13:Int} {found free limbo:List Int} {buf work:List Ent}:callP cfg (n+1) 291 [.agg [.int .i64 a0,.int .i64 k,.int .i64 a2,.int .i64 a3,.int .i64 a4,.int .i64 a5,.int .i64 a6,.int .i64 a7,.int .i64 a8,.int .i64 a9,.int .i64 a10,.int .i64 a11,.int .i64 a12,.int .i64 a13,Xl found,Xl free,Yu buf,Yu work,Xl limbo]]=some ⟨.bool (k==2),[]⟩:=by
 rw [Xa]
 refine go ?_
 try with_reducible rfl
theorem Zm {n:Nat} {e:Ent} {xs:List Int} (hx:xs.length≤1048576):callP cfg (n+1) 360 [.agg (entA e),Xl xs]=some ⟨.bool (ndB e xs),[]⟩:=by
 rw [Xa]
 refine go ?_
 refine (Xb (fun e k=>e.set 5 (.int .i64 (k:Int))) (fun h _=>h) (fun k=>some ⟨.bool ((xs.drop k).any (fun x=>decide (e.lo≤x)&&decide (x<e.hi))),[]⟩) xs.length (by show _<18446744073709551616;omega) rfl ?_).trans rfl
 intro k f hk IH
 by_cases hlt:k<xs.length
 ·have e1:=Xf (f:=iA) hlt
  have e2:=Xg k
  have r1:=Xe (f:=iA) hlt
  have hw:=Xv (k:=k) (by omega)
  rw [Xq hlt,List.any_cons]
  by_cases a1:e.lo≤(xs.getD k default)
  ·have b1:decide (e.lo≤(xs.getD k default))=true:=decide_eq_true a1
   by_cases a2:(xs.getD k default)<e.hi
   ·have b2:decide ((xs.getD k default)<e.hi)=true:=decide_eq_true a2
    have hv:(decide (e.lo≤(xs.getD k default))&&decide ((xs.getD k default)<e.hi))=true:=by rw [b1,b2];rfl
    rw [hv,Bool.true_or]
    refine go ?_
    try with_reducible rfl
    all_goals rfl
   ·have b2:decide ((xs.getD k default)<e.hi)=false:=decide_eq_false a2
    have hv:(decide (e.lo≤(xs.getD k default))&&decide ((xs.getD k default)<e.hi))=false:=by rw [b1,b2];rfl
    rw [hv,Bool.false_or]
    refine go ?_
    try with_reducible rfl
    exact IH hlt _ _ (by rw [hw];rfl) rfl
  ·have b1:decide (e.lo≤(xs.getD k default))=false:=decide_eq_false a1
   have hv:(decide (e.lo≤(xs.getD k default))&&decide ((xs.getD k default)<e.hi))=false:=by rw [b1];rfl
   rw [hv,Bool.false_or]
   refine go ?_
   try with_reducible rfl
   exact IH hlt _ _ (by rw [hw];rfl) rfl
 ·have e1:=Xh (f:=iA) (Nat.le_of_not_lt hlt)
  rw [List.drop_eq_nil_of_le (by omega)]
  refine go ?_
  try with_reducible rfl
  rfl
theorem Xa7 {n:Nat} {e:Ent} {xs:List Int} (hx:xs.length≤1048576):callP cfg (n+1) 361 [.agg (entA e),Xl xs]=some ⟨.bool (psB e xs),[]⟩:=by
 rw [Xa]
 refine go ?_
 refine (Xb (fun e k=>e.set 5 (.int .i64 (k:Int))) (fun h _=>h) (fun k=>some ⟨.bool (!(xs.drop k).any (fun x=>decide (x<e.hi))),[]⟩) xs.length (by show _<18446744073709551616;omega) rfl ?_).trans rfl
 intro k f hk IH
 by_cases hlt:k<xs.length
 ·have e1:=Xf (f:=iA) hlt
  have e2:=Xg k
  have r1:=Xe (f:=iA) hlt
  have hw:=Xv (k:=k) (by omega)
  rw [Xq hlt,List.any_cons]
  by_cases a2:(xs.getD k default)<e.hi
  ·have b2:decide ((xs.getD k default)<e.hi)=true:=decide_eq_true a2
   have hv:=b2
   rw [hv,Bool.true_or]
   refine go ?_
   try with_reducible rfl
   all_goals rfl
  ·have b2:decide ((xs.getD k default)<e.hi)=false:=decide_eq_false a2
   have hv:=b2
   rw [hv,Bool.false_or]
   refine go ?_
   try with_reducible rfl
   exact IH hlt _ _ (by rw [hw];rfl) rfl
 ·have e1:=Xh (f:=iA) (Nat.le_of_not_lt hlt)
  rw [List.drop_eq_nil_of_le (by omega)]
  refine go ?_
  try with_reducible rfl
  rfl
theorem Xix {n:Nat} {xs:List Int} {v:Int} (hx:xs.length≤1048576):callP cfg (n+1) 333 [Xl xs,.int .i64 v]=some ⟨.bool (xs.contains v),[]⟩:=by
 rw [Xa]
 rw [←Xv9]
 refine go ?_
 refine (Xb (fun e k=>e.set 5 (.int .i64 (k:Int))) (fun h _=>h) (fun k=>some ⟨.bool ((xs.drop k).any (fun x=>x==v)),[]⟩) xs.length (by show _<18446744073709551616;omega) rfl ?_).trans rfl
 intro k f hk IH
 by_cases hlt:k<xs.length
 ·have e1:=Xf (f:=iA) hlt
  have e2:=Xg k
  have r1:=Xe (f:=iA) hlt
  have hw:=Xv (k:=k) (by omega)
  rw [Xq hlt,List.any_cons]
  by_cases a2:(xs.getD k default)=v
  ·have b2:((xs.getD k default)==v)=true:=Yk a2
   have hv:=b2
   rw [hv,Bool.true_or]
   refine go ?_
   try with_reducible rfl
   all_goals rfl
  ·have b2:((xs.getD k default)==v)=false:=Xt a2
   have hv:=b2
   rw [hv,Bool.false_or]
   refine go ?_
   try with_reducible rfl
   exact IH hlt _ _ (by rw [hw];rfl) rfl
 ·have e1:=Xh (f:=iA) (Nat.le_of_not_lt hlt)
  rw [List.drop_eq_nil_of_le (by omega)]
  refine go ?_
  try with_reducible rfl
  rfl
theorem Xbv {n:Nat} {q key:Int} {xs:List Ent} {ann:List Int} (hx:xs.length≤1048576) (ha:ann.length≤1048576):callP cfg (n+2) 331 [.int .i64 q,.int .i64 key,Yu xs,Xl ann]=some ⟨.tup [Yu (xs.filter fun e=>!drpB q key ann e),Yu (xs.filter fun e=>drpB q key ann e)],[]⟩:=by
 rw [Xa]
 refine go ?_
 refine (Xb (fun e k=>e.set 12 (.int .i64 (k:Int))) (fun h k=>(h.set 3 (some ⟨false,false,false,4,((xs.take k).filter fun e=>!drpB q key ann e).map entA⟩)).set 4 (some ⟨false,false,false,4,((xs.take k).filter fun e=>drpB q key ann e).map entA⟩)) (fun _=>some ⟨.tup [Yu (xs.filter fun e=>!drpB q key ann e),Yu (xs.filter fun e=>drpB q key ann e)],[]⟩) xs.length (by show _<18446744073709551616;omega) rfl ?_).trans rfl
 intro k f hk IH
 by_cases hlt:k<xs.length
 ·have e1:=Xf (f:=entA) hlt
  have e2:=Xg k
  have r1:=Xe (f:=entA) hlt
  have hw:=Xv (k:=k) (by omega)
  by_cases hq:q=1
  ·have b1:(q==1)=true:=Yk hq
   by_cases h1:ndB (xs.getD k default) ann=true
   ·by_cases h2:psB (xs.getD k default) ann=true
    ·have hd:drpB q key ann (xs.getD k default)=true:=by unfold drpB;rw [if_pos hq];exact h2
     have e5:decide (((((xs.take k).filter fun e=>drpB q key ann e).map entA).length+1)*32≤Yf)=true:=decide_eq_true (by rw [List.length_map];have:=Yh (q:=fun e=>drpB q key ann e) (k:=k) hx;show _≤140737488355328;omega)
     have x1:=fun {x y:R}=>Xn (x:=x) (y:=y) e5
     have fq1:=fun {n:Nat} {e:Ent}=>Zm (n:=n) (e:=e) ha
     have fq2:=fun {n:Nat} {e:Ent}=>Xa7 (n:=n) (e:=e) ha
     refine go ?_
     clear x1 fq1 fq2
     try with_reducible rfl
     refine IH hlt _ _ (by rw [hw];rfl) (by rw [Zg (d:=default) hlt hd,Zb (d:=default) hlt (by rw [hd];rfl),List.map_append];rfl)
    ·have h2:psB (xs.getD k default) ann=false:=by simpa using h2
     have hd:drpB q key ann (xs.getD k default)=false:=by unfold drpB;rw [if_pos hq];exact h2
     have e5:decide (((((xs.take k).filter fun e=>!drpB q key ann e).map entA).length+1)*32≤Yf)=true:=decide_eq_true (by rw [List.length_map];have:=Yh (q:=fun e=>!drpB q key ann e) (k:=k) hx;show _≤140737488355328;omega)
     have x1:=fun {x y:R}=>Xn (x:=x) (y:=y) e5
     have fq1:=fun {n:Nat} {e:Ent}=>Zm (n:=n) (e:=e) ha
     have fq2:=fun {n:Nat} {e:Ent}=>Xa7 (n:=n) (e:=e) ha
     refine go ?_
     clear x1 fq1 fq2
     try with_reducible rfl
     refine IH hlt _ _ (by rw [hw];rfl) (by rw [Zb (d:=default) hlt hd,Zg (d:=default) hlt (by rw [hd];rfl),List.map_append];rfl)
   ·have h1:ndB (xs.getD k default) ann=false:=by simpa using h1
    by_cases h2:psB (xs.getD k default) ann=true
    ·have hd:drpB q key ann (xs.getD k default)=true:=by unfold drpB;rw [if_pos hq];exact h2
     have e5:decide (((((xs.take k).filter fun e=>drpB q key ann e).map entA).length+1)*32≤Yf)=true:=decide_eq_true (by rw [List.length_map];have:=Yh (q:=fun e=>drpB q key ann e) (k:=k) hx;show _≤140737488355328;omega)
     have x1:=fun {x y:R}=>Xn (x:=x) (y:=y) e5
     have fq1:=fun {n:Nat} {e:Ent}=>Zm (n:=n) (e:=e) ha
     have fq2:=fun {n:Nat} {e:Ent}=>Xa7 (n:=n) (e:=e) ha
     refine go ?_
     clear x1 fq1 fq2
     try with_reducible rfl
     refine IH hlt _ _ (by rw [hw];rfl) (by rw [Zg (d:=default) hlt hd,Zb (d:=default) hlt (by rw [hd];rfl),List.map_append];rfl)
    ·have h2:psB (xs.getD k default) ann=false:=by simpa using h2
     have hd:drpB q key ann (xs.getD k default)=false:=by unfold drpB;rw [if_pos hq];exact h2
     have e5:decide (((((xs.take k).filter fun e=>!drpB q key ann e).map entA).length+1)*32≤Yf)=true:=decide_eq_true (by rw [List.length_map];have:=Yh (q:=fun e=>!drpB q key ann e) (k:=k) hx;show _≤140737488355328;omega)
     have x1:=fun {x y:R}=>Xn (x:=x) (y:=y) e5
     have fq1:=fun {n:Nat} {e:Ent}=>Zm (n:=n) (e:=e) ha
     have fq2:=fun {n:Nat} {e:Ent}=>Xa7 (n:=n) (e:=e) ha
     refine go ?_
     clear x1 fq1 fq2
     try with_reducible rfl
     refine IH hlt _ _ (by rw [hw];rfl) (by rw [Zb (d:=default) hlt hd,Zg (d:=default) hlt (by rw [hd];rfl),List.map_append];rfl)
  ·have b1:(q==1)=false:=Xt hq
   by_cases hq2:q=2
   ·have b2:(q==2)=true:=Yk hq2
    by_cases h1:ndB (xs.getD k default) ann=true
    ·have hd:drpB q key ann (xs.getD k default)=false:=by unfold drpB;rw [if_neg hq,if_pos hq2];simp_all
     have e5:decide (((((xs.take k).filter fun e=>!drpB q key ann e).map entA).length+1)*32≤Yf)=true:=decide_eq_true (by rw [List.length_map];have:=Yh (q:=fun e=>!drpB q key ann e) (k:=k) hx;show _≤140737488355328;omega)
     have x1:=fun {x y:R}=>Xn (x:=x) (y:=y) e5
     have fq1:=fun {n:Nat} {e:Ent}=>Zm (n:=n) (e:=e) ha
     refine go ?_
     clear x1 fq1
     try with_reducible rfl
     refine IH hlt _ _ (by rw [hw];rfl) (by rw [Zb (d:=default) hlt hd,Zg (d:=default) hlt (by rw [hd];rfl),List.map_append];rfl)
    ·have h1:ndB (xs.getD k default) ann=false:=by simpa using h1
     by_cases h3:key<0
     ·have hd:drpB q key ann (xs.getD k default)=true:=by unfold drpB;rw [if_neg hq,if_pos hq2];simp_all
      have h4:decide (key<0)=true:=decide_eq_true h3
      have e5:decide (((((xs.take k).filter fun e=>drpB q key ann e).map entA).length+1)*32≤Yf)=true:=decide_eq_true (by rw [List.length_map];have:=Yh (q:=fun e=>drpB q key ann e) (k:=k) hx;show _≤140737488355328;omega)
      have x1:=fun {x y:R}=>Xn (x:=x) (y:=y) e5
      have fq1:=fun {n:Nat} {e:Ent}=>Zm (n:=n) (e:=e) ha
      refine go ?_
      clear x1 fq1
      try with_reducible rfl
      refine IH hlt _ _ (by rw [hw];rfl) (by rw [Zg (d:=default) hlt hd,Zb (d:=default) hlt (by rw [hd];rfl),List.map_append];rfl)
     ·have h4:decide (key<0)=false:=decide_eq_false h3
      by_cases h5:key=(xs.getD k default).key
      ·have hd:drpB q key ann (xs.getD k default)=true:=by unfold drpB;rw [if_neg hq,if_pos hq2];simp_all
       have h6:((xs.getD k default).key==key)=true:=Yk h5.symm
       have e5:decide (((((xs.take k).filter fun e=>drpB q key ann e).map entA).length+1)*32≤Yf)=true:=decide_eq_true (by rw [List.length_map];have:=Yh (q:=fun e=>drpB q key ann e) (k:=k) hx;show _≤140737488355328;omega)
       have x1:=fun {x y:R}=>Xn (x:=x) (y:=y) e5
       have fq1:=fun {n:Nat} {e:Ent}=>Zm (n:=n) (e:=e) ha
       refine go ?_
       clear x1 fq1
       try with_reducible rfl
       refine IH hlt _ _ (by rw [hw];rfl) (by rw [Zg (d:=default) hlt hd,Zb (d:=default) hlt (by rw [hd];rfl),List.map_append];rfl)
      ·have hd:drpB q key ann (xs.getD k default)=false:=by unfold drpB;rw [if_neg hq,if_pos hq2];simp_all
       have h6:((xs.getD k default).key==key)=false:=Xt (fun e=>h5 e.symm)
       have e5:decide (((((xs.take k).filter fun e=>!drpB q key ann e).map entA).length+1)*32≤Yf)=true:=decide_eq_true (by rw [List.length_map];have:=Yh (q:=fun e=>!drpB q key ann e) (k:=k) hx;show _≤140737488355328;omega)
       have x1:=fun {x y:R}=>Xn (x:=x) (y:=y) e5
       have fq1:=fun {n:Nat} {e:Ent}=>Zm (n:=n) (e:=e) ha
       refine go ?_
       clear x1 fq1
       try with_reducible rfl
       refine IH hlt _ _ (by rw [hw];rfl) (by rw [Zb (d:=default) hlt hd,Zg (d:=default) hlt (by rw [hd];rfl),List.map_append];rfl)
   ·have b2:(q==2)=false:=Xt hq2
    by_cases h1:ndB (xs.getD k default) ann=true
    ·have hd:drpB q key ann (xs.getD k default)=false:=by unfold drpB;rw [if_neg hq,if_neg hq2,h1];rfl
     have e5:decide (((((xs.take k).filter fun e=>!drpB q key ann e).map entA).length+1)*32≤Yf)=true:=decide_eq_true (by rw [List.length_map];have:=Yh (q:=fun e=>!drpB q key ann e) (k:=k) hx;show _≤140737488355328;omega)
     have x1:=fun {x y:R}=>Xn (x:=x) (y:=y) e5
     have fq1:=fun {n:Nat} {e:Ent}=>Zm (n:=n) (e:=e) ha
     refine go ?_
     clear x1 fq1
     try with_reducible rfl
     refine IH hlt _ _ (by rw [hw];rfl) (by rw [Zb (d:=default) hlt hd,Zg (d:=default) hlt (by rw [hd];rfl),List.map_append];rfl)
    ·have h1:ndB (xs.getD k default) ann=false:=by simpa using h1
     have hd:drpB q key ann (xs.getD k default)=true:=by unfold drpB;rw [if_neg hq,if_neg hq2,h1];rfl
     have e5:decide (((((xs.take k).filter fun e=>drpB q key ann e).map entA).length+1)*32≤Yf)=true:=decide_eq_true (by rw [List.length_map];have:=Yh (q:=fun e=>drpB q key ann e) (k:=k) hx;show _≤140737488355328;omega)
     have x1:=fun {x y:R}=>Xn (x:=x) (y:=y) e5
     have fq1:=fun {n:Nat} {e:Ent}=>Zm (n:=n) (e:=e) ha
     refine go ?_
     clear x1 fq1
     try with_reducible rfl
     refine IH hlt _ _ (by rw [hw];rfl) (by rw [Zg (d:=default) hlt hd,Zb (d:=default) hlt (by rw [hd];rfl),List.map_append];rfl)
 ·have e1:=Xh (f:=entA) (Nat.le_of_not_lt hlt)
  have hall:xs.take k=xs:=List.take_of_length_le (by omega)
  rw [hall]
  refine go ?_
  try with_reducible rfl
theorem Xaf {n:Nat} {xs fs:List Int} (hx:xs.length≤1048576) (hf:fs.length≤1048576):callP cfg (n+2) 297 [Xl xs,Xl fs]=some ⟨.tup [Xl (xs.filter fun h=>fs.contains h),Xl (xs.filter fun h=>!fs.contains h)],[]⟩:=by
 rw [Xa]
 refine go ?_
 refine (Xb (fun e k=>e.set 8 (.int .i64 (k:Int))) (fun h k=>(h.set 3 (some ⟨false,false,false,1,((xs.take k).filter fun h=>fs.contains h).map iA⟩)).set 4 (some ⟨false,false,false,1,((xs.take k).filter fun h=>!fs.contains h).map iA⟩)) (fun _=>some ⟨.tup [Xl (xs.filter fun h=>fs.contains h),Xl (xs.filter fun h=>!fs.contains h)],[]⟩) xs.length (by show _<18446744073709551616;omega) rfl ?_).trans rfl
 intro k f hk IH
 by_cases hlt:k<xs.length
 ·have e1:=Xf (f:=iA) hlt
  have e2:=Xg k
  have r1:=Xe (f:=iA) hlt
  have hw:=Xv (k:=k) (by omega)
  by_cases hb:fs.contains (xs.getD k default)=true
  ·have b1:fs.contains (xs.getD k default)=true:=hb
   have e5:decide (((((xs.take k).filter fun h=>fs.contains h).map iA).length+1)*8≤Yf)=true:=decide_eq_true (by rw [List.length_map];have:=Yh (q:=fun h=>fs.contains h) (k:=k) hx;show _≤140737488355328;omega)
   have x1:=fun {x y:R}=>Xn (x:=x) (y:=y) e5
   have fq1:=fun {n:Nat} {v:Int}=>Xix (n:=n) (v:=v) hf
   refine go ?_
   clear x1 fq1
   try with_reducible rfl
   refine IH hlt _ _ (by rw [hw];rfl) (by rw [Zg (q:=fun h=>fs.contains h) (d:=default) hlt b1,Zb (q:=fun h=>!fs.contains h) (d:=default) hlt (by rw [b1];rfl),List.map_append];rfl)
  ·have b1:fs.contains (xs.getD k default)=false:=by simpa using hb
   have e5:decide (((((xs.take k).filter fun h=>!fs.contains h).map iA).length+1)*8≤Yf)=true:=decide_eq_true (by rw [List.length_map];have:=Yh (q:=fun h=>!fs.contains h) (k:=k) hx;show _≤140737488355328;omega)
   have x1:=fun {x y:R}=>Xn (x:=x) (y:=y) e5
   have fq1:=fun {n:Nat} {v:Int}=>Xix (n:=n) (v:=v) hf
   refine go ?_
   clear x1 fq1
   try with_reducible rfl
   refine IH hlt _ _ (by rw [hw];rfl) (by rw [Zb (q:=fun h=>fs.contains h) (d:=default) hlt b1,Zg (q:=fun h=>!fs.contains h) (d:=default) hlt (by rw [b1];rfl),List.map_append];rfl)
 ·have e1:=Xh (f:=iA) (Nat.le_of_not_lt hlt)
  have hall:xs.take k=xs:=List.take_of_length_le (by omega)
  rw [hall]
  refine go ?_
  try with_reducible rfl
theorem Xj9 {n:Nat} {pk:Int} {c:Cf} {t:Th} (hc:Yp c=true) (ht:t.buf.length≤1048576):callP cfg (n+3) 292 [.agg (cfA c),.agg (thR pk t)]=some ⟨.bool (Xin c t),[]⟩:=by
 rw [Xa]
 unfold Xin
 by_cases h:c.p=2
 ·have b:(c.p !=2)=false:=Yb h
  rw [if_pos h]
  have fq1:=@X0
  refine go ?_
  clear fq1
  refine (Xb (fun e k=>e.set 5 (.int .i64 (k:Int))) (fun h _=>h) (fun k=>some ⟨.bool ((t.buf.drop k).any (fun e=>decide (e.key=t.op.key))),[]⟩) t.buf.length (by show _<18446744073709551616;omega) rfl ?_).trans rfl
  intro k f hk IH
  by_cases hlt:k<t.buf.length
  ·have e1:=Xf (f:=entA) hlt
   have e2:=Xg k
   have r1:=Xe (f:=entA) hlt
   have hw:=Xv (k:=k) (by omega)
   rw [Xq hlt,List.any_cons]
   by_cases a2:(t.buf.getD k default).key=t.op.key
   ·have b2:((t.buf.getD k default).key==t.op.key)=true:=Yk a2
    have hv:decide ((t.buf.getD k default).key=t.op.key)=true:=decide_eq_true a2
    rw [hv,Bool.true_or]
    refine go ?_
    try with_reducible rfl
    all_goals rfl
   ·have b2:((t.buf.getD k default).key==t.op.key)=false:=Xt a2
    have hv:decide ((t.buf.getD k default).key=t.op.key)=false:=decide_eq_false a2
    rw [hv,Bool.false_or]
    refine go ?_
    try with_reducible rfl
    exact IH hlt _ _ (by rw [hw];rfl) rfl
  ·have e1:=Xh (f:=entA) (Nat.le_of_not_lt hlt)
   rw [List.drop_eq_nil_of_le (by omega)]
   refine go ?_
   try with_reducible rfl
   rfl
 ·have b:(c.p !=2)=true:=Zn h
  rw [if_neg h]
  have fq1:=@X0
  refine go ?_
  clear fq1
  try with_reducible rfl
  simp only [List.length_map]
theorem X2r {s:Sta} {p:Nat} (hLd:ldL s.cells (annB s.c (s.th p).pos)=cl s (annB s.c (s.th p).pos)) (h1:(s.th p).pos+1<s.c.th) (h0:cl s (annB s.c (s.th p).pos)=0):sk50 s p (s.th p)=setT s p {s.th p with found:=(s.th p).found,pos:=(s.th p).pos+1}:=X0q h1 (by rw [hLd];exact h0)
theorem X2s {s:Sta} {p:Nat} (hLd:ldL s.cells (annB s.c (s.th p).pos)=cl s (annB s.c (s.th p).pos)) (h1:(s.th p).pos+1<s.c.th) (h0:¬cl s (annB s.c (s.th p).pos)=0):sk50 s p (s.th p)=setT s p {s.th p with found:=(s.th p).found++[cl s (annB s.c (s.th p).pos)],pos:=(s.th p).pos+1}:=by
 have:=X0r h1 (by rw [hLd];exact h0)
 rw [hLd] at this
 exact this
theorem Xxn {s:Sta} {p:Nat} (hLd:ldL s.cells (annB s.c (s.th p).pos)=cl s (annB s.c (s.th p).pos)) (h1:¬(s.th p).pos+1<s.c.th) (hk5:¬(s.th p).op.k=5) (h0:¬cl s (annB s.c (s.th p).pos)=0) (hwl:¬(s.th p).work.length+((s.th p).buf.filter fun e=>drpB s.c.p (s.th p).op.key ((s.th p).found++[cl s (annB s.c (s.th p).pos)]) e).length=0):sk50 s p (s.th p)=setT s p {s.th p with found:=((s.th p).found++[cl s (annB s.c (s.th p).pos)]),pos:=(s.th p).pos+1,buf:=((s.th p).buf.filter fun e=>!drpB s.c.p (s.th p).op.key ((s.th p).found++[cl s (annB s.c (s.th p).pos)]) e),work:=(s.th p).work++((s.th p).buf.filter fun e=>drpB s.c.p (s.th p).op.key ((s.th p).found++[cl s (annB s.c (s.th p).pos)]) e),pc:=60}:=by
 have:=Xsv h1 hk5 (by rw [hLd];exact h0) (by rw [hLd];exact hwl)
 rw [hLd] at this
 exact this
theorem Xph {s:Sta} {p:Nat} (hLd:ldL s.cells (annB s.c (s.th p).pos)=cl s (annB s.c (s.th p).pos)) (h1:¬(s.th p).pos+1<s.c.th) (hk5:¬(s.th p).op.k=5) (h0:¬cl s (annB s.c (s.th p).pos)=0) (hwl:(s.th p).work.length+((s.th p).buf.filter fun e=>drpB s.c.p (s.th p).op.key ((s.th p).found++[cl s (annB s.c (s.th p).pos)]) e).length=0):sk50 s p (s.th p)=setT s p (fin s.c {s.th p with found:=((s.th p).found++[cl s (annB s.c (s.th p).pos)]),pos:=(s.th p).pos+1,buf:=((s.th p).buf.filter fun e=>!drpB s.c.p (s.th p).op.key ((s.th p).found++[cl s (annB s.c (s.th p).pos)]) e),work:=(s.th p).work++((s.th p).buf.filter fun e=>drpB s.c.p (s.th p).op.key ((s.th p).found++[cl s (annB s.c (s.th p).pos)]) e),pc:=60}):=by
 have:=Xm7 h1 hk5 (by rw [hLd];exact h0) (by rw [hLd];exact hwl)
 rw [hLd] at this
 exact this
theorem Xxo {s:Sta} {p:Nat} (hLd:ldL s.cells (annB s.c (s.th p).pos)=cl s (annB s.c (s.th p).pos)) (h1:¬(s.th p).pos+1<s.c.th) (hk5:(s.th p).op.k=5) (h0:¬cl s (annB s.c (s.th p).pos)=0) (hwl:¬(s.th p).work.length+((s.th p).buf.filter fun e=>drpB s.c.p (-1) ((s.th p).found++[cl s (annB s.c (s.th p).pos)]) e).length=0):sk50 s p (s.th p)=setT s p {s.th p with found:=((s.th p).found++[cl s (annB s.c (s.th p).pos)]),pos:=(s.th p).pos+1,buf:=((s.th p).buf.filter fun e=>!drpB s.c.p (-1) ((s.th p).found++[cl s (annB s.c (s.th p).pos)]) e),work:=(s.th p).work++((s.th p).buf.filter fun e=>drpB s.c.p (-1) ((s.th p).found++[cl s (annB s.c (s.th p).pos)]) e),pc:=60}:=by
 have:=Xsw h1 hk5 (by rw [hLd];exact h0) (by rw [hLd];exact hwl)
 rw [hLd] at this
 exact this
theorem Xka {s:Sta} {p:Nat} (hLd:ldL s.cells (annB s.c (s.th p).pos)=cl s (annB s.c (s.th p).pos)) (h1:¬(s.th p).pos+1<s.c.th) (hk5:(s.th p).op.k=5) (h0:¬cl s (annB s.c (s.th p).pos)=0) (hwl:(s.th p).work.length+((s.th p).buf.filter fun e=>drpB s.c.p (-1) ((s.th p).found++[cl s (annB s.c (s.th p).pos)]) e).length=0):sk50 s p (s.th p)=setT s p (fin s.c {s.th p with found:=((s.th p).found++[cl s (annB s.c (s.th p).pos)]),pos:=(s.th p).pos+1,buf:=((s.th p).buf.filter fun e=>!drpB s.c.p (-1) ((s.th p).found++[cl s (annB s.c (s.th p).pos)]) e),work:=(s.th p).work++((s.th p).buf.filter fun e=>drpB s.c.p (-1) ((s.th p).found++[cl s (annB s.c (s.th p).pos)]) e),pc:=60}):=by
 have:=Xiu h1 hk5 (by rw [hLd];exact h0) (by rw [hLd];exact hwl)
 rw [hLd] at this
 exact this
theorem Xxp {s:Sta} {p:Nat} (hLd:ldL s.cells (annB s.c (s.th p).pos)=cl s (annB s.c (s.th p).pos)) (h1:¬(s.th p).pos+1<s.c.th) (hk5:¬(s.th p).op.k=5) (h0:cl s (annB s.c (s.th p).pos)=0) (hwl:¬(s.th p).work.length+((s.th p).buf.filter fun e=>drpB s.c.p (s.th p).op.key (s.th p).found e).length=0):sk50 s p (s.th p)=setT s p {s.th p with found:=(s.th p).found,pos:=(s.th p).pos+1,buf:=((s.th p).buf.filter fun e=>!drpB s.c.p (s.th p).op.key (s.th p).found e),work:=(s.th p).work++((s.th p).buf.filter fun e=>drpB s.c.p (s.th p).op.key (s.th p).found e),pc:=60}:=Xsx h1 hk5 (by rw [hLd];exact h0) hwl
theorem Xpi {s:Sta} {p:Nat} (hLd:ldL s.cells (annB s.c (s.th p).pos)=cl s (annB s.c (s.th p).pos)) (h1:¬(s.th p).pos+1<s.c.th) (hk5:¬(s.th p).op.k=5) (h0:cl s (annB s.c (s.th p).pos)=0) (hwl:(s.th p).work.length+((s.th p).buf.filter fun e=>drpB s.c.p (s.th p).op.key (s.th p).found e).length=0):sk50 s p (s.th p)=setT s p (fin s.c {s.th p with found:=(s.th p).found,pos:=(s.th p).pos+1,buf:=((s.th p).buf.filter fun e=>!drpB s.c.p (s.th p).op.key (s.th p).found e),work:=(s.th p).work++((s.th p).buf.filter fun e=>drpB s.c.p (s.th p).op.key (s.th p).found e),pc:=60}):=Xm8 h1 hk5 (by rw [hLd];exact h0) hwl
theorem Xxq {s:Sta} {p:Nat} (hLd:ldL s.cells (annB s.c (s.th p).pos)=cl s (annB s.c (s.th p).pos)) (h1:¬(s.th p).pos+1<s.c.th) (hk5:(s.th p).op.k=5) (h0:cl s (annB s.c (s.th p).pos)=0) (hwl:¬(s.th p).work.length+((s.th p).buf.filter fun e=>drpB s.c.p (-1) (s.th p).found e).length=0):sk50 s p (s.th p)=setT s p {s.th p with found:=(s.th p).found,pos:=(s.th p).pos+1,buf:=((s.th p).buf.filter fun e=>!drpB s.c.p (-1) (s.th p).found e),work:=(s.th p).work++((s.th p).buf.filter fun e=>drpB s.c.p (-1) (s.th p).found e),pc:=60}:=Xsy h1 hk5 (by rw [hLd];exact h0) hwl
theorem Xkb {s:Sta} {p:Nat} (hLd:ldL s.cells (annB s.c (s.th p).pos)=cl s (annB s.c (s.th p).pos)) (h1:¬(s.th p).pos+1<s.c.th) (hk5:(s.th p).op.k=5) (h0:cl s (annB s.c (s.th p).pos)=0) (hwl:(s.th p).work.length+((s.th p).buf.filter fun e=>drpB s.c.p (-1) (s.th p).found e).length=0):sk50 s p (s.th p)=setT s p (fin s.c {s.th p with found:=(s.th p).found,pos:=(s.th p).pos+1,buf:=((s.th p).buf.filter fun e=>!drpB s.c.p (-1) (s.th p).found e),work:=(s.th p).work++((s.th p).buf.filter fun e=>drpB s.c.p (-1) (s.th p).found e),pc:=60}):=Xiv h1 hk5 (by rw [hLd];exact h0) hwl
theorem X2t {s:Sta} {p:Nat} (hLd:ldL s.cells (hazB s.c ((s.th p).pos / 2) ((s.th p).pos % 2))=cl s (hazB s.c ((s.th p).pos / 2) ((s.th p).pos % 2))) (h1:(s.th p).pos+1<2*s.c.th) (h0:cl s (hazB s.c ((s.th p).pos / 2) ((s.th p).pos % 2))=0):sk70 s p (s.th p)=setT s p {s.th p with found:=(s.th p).found,pos:=(s.th p).pos+1}:=X0s h1 (by rw [hLd];exact h0)
theorem X2u {s:Sta} {p:Nat} (hLd:ldL s.cells (hazB s.c ((s.th p).pos / 2) ((s.th p).pos % 2))=cl s (hazB s.c ((s.th p).pos / 2) ((s.th p).pos % 2))) (h1:(s.th p).pos+1<2*s.c.th) (h0:¬cl s (hazB s.c ((s.th p).pos / 2) ((s.th p).pos % 2))=0):sk70 s p (s.th p)=setT s p {s.th p with found:=(s.th p).found++[cl s (hazB s.c ((s.th p).pos / 2) ((s.th p).pos % 2))],pos:=(s.th p).pos+1}:=by
 have:=X0t h1 (by rw [hLd];exact h0)
 rw [hLd] at this
 exact this
theorem X2v {s:Sta} {p:Nat} (hLd:ldL s.cells (hazB s.c ((s.th p).pos / 2) ((s.th p).pos % 2))=cl s (hazB s.c ((s.th p).pos / 2) ((s.th p).pos % 2))) (h1:¬(s.th p).pos+1<2*s.c.th) (h0:cl s (hazB s.c ((s.th p).pos / 2) ((s.th p).pos % 2))=0):sk70 s p (s.th p)=setT {s with gens:=(((s.th p).limbo.filter fun h=>!(s.th p).found.contains h).foldl Xz (s.gens,(s.th p).free)).1} p (endT {s.th p with limbo:=(s.th p).limbo.filter fun h=>(s.th p).found.contains h,free:=(((s.th p).limbo.filter fun h=>!(s.th p).found.contains h).foldl Xz (s.gens,(s.th p).free)).2} ⟨0,0⟩):=X0u h1 (by rw [hLd];exact h0)
theorem X2w {s:Sta} {p:Nat} (hLd:ldL s.cells (hazB s.c ((s.th p).pos / 2) ((s.th p).pos % 2))=cl s (hazB s.c ((s.th p).pos / 2) ((s.th p).pos % 2))) (h1:¬(s.th p).pos+1<2*s.c.th) (h0:¬cl s (hazB s.c ((s.th p).pos / 2) ((s.th p).pos % 2))=0):sk70 s p (s.th p)=setT {s with gens:=(((s.th p).limbo.filter fun h=>!((s.th p).found++[cl s (hazB s.c ((s.th p).pos / 2) ((s.th p).pos % 2))]).contains h).foldl Xz (s.gens,(s.th p).free)).1} p (endT {s.th p with limbo:=(s.th p).limbo.filter fun h=>((s.th p).found++[cl s (hazB s.c ((s.th p).pos / 2) ((s.th p).pos % 2))]).contains h,free:=(((s.th p).limbo.filter fun h=>!((s.th p).found++[cl s (hazB s.c ((s.th p).pos / 2) ((s.th p).pos % 2))]).contains h).foldl Xz (s.gens,(s.th p).free)).2} ⟨0,0⟩):=by
 have:=X0v h1 (by rw [hLd];exact h0)
 rw [hLd] at this
 exact this
theorem Xun {n:Nat} {q key y:Int} {xs:List Ent} {ann:List Int} {r:Nat} {pth:Path} (hx:xs.length≤1048576) (ha:ann.length≤1048575):callP cfg (n+2) 331 [.int .i64 q,.int .i64 key,Yu xs,.lst 1 (Zj (.ref r pth) (ann.map iA)++[[.int .i64 y]])]=some ⟨.tup [Yu (xs.filter fun e=>!drpB q key (ann++[y]) e),Yu (xs.filter fun e=>drpB q key (ann++[y]) e)],[]⟩:=by
 have:=Xbv (n:=n) (q:=q) (key:=key) (xs:=xs) (ann:=ann++[y]) hx (by rw [List.length_append];simp only [List.length_cons,List.length_nil];omega)
 rw [Xl,List.map_append] at this
 exact this
theorem Xm9 {n:Nat} {y:Int} {xs fs:List Int} {r:Nat} {pth:Path} (hx:xs.length≤1048576) (hf:fs.length≤1048575):callP cfg (n+2) 297 [Xl xs,.lst 1 (Zj (.ref r pth) (fs.map iA)++[[.int .i64 y]])]=some ⟨.tup [Xl (xs.filter fun h=>(fs++[y]).contains h),Xl (xs.filter fun h=>!(fs++[y]).contains h)],[]⟩:=by
 have:=Xaf (n:=n) (xs:=xs) (fs:=fs++[y]) hx (by rw [List.length_append];simp only [List.length_cons,List.length_nil];omega)
 rw [Xl,Xl,List.map_append] at this
 exact this
end Go.Proofs.YtbploohjimpcaaaGreat.A
