/- What the program's functions answer (Gj): no condition. -/
import Derived.Test.YtbploohjimpcaaaGreatGi
set_option linter.unusedVariables false
set_option linter.unusedSimpArgs false
namespace Go.Proofs.YtbploohjimpcaaaGreat.A
open Go Go.Abs
set_option maxRecDepth 100000
theorem Xcu {n:Nat} {pk:Int} {t:Th} {e:Ent}:callP cfg (n+1) 366 [.agg (entA e),.pv (thR pk t)]=some ⟨.bool (decide (e.key=t.op.key)),[]⟩:=by
 rw [Xa]
 by_cases h:e.key=t.op.key
 ·rw [decide_eq_true h]
  have b:(e.key==t.op.key)=true:=Yk h
  refine go ?_
  try with_reducible rfl
  exact okB b
 ·rw [decide_eq_false h]
  have b:(e.key==t.op.key)=false:=Xt h
  refine go ?_
  try with_reducible rfl
  exact okB b
theorem X4x {n:Nat} {pk:Int} {t:Th} {xs:List Ent} (hx:xs.length≤maxLen):callP cfg (n+2) 352 [Yu xs,.fn 366 [.pv (thR pk t)]]=some ⟨.int .i64 (idxF (fun e=>decide (e.key=t.op.key)) 0 xs),[]⟩:=by
 unfold maxLen at hx
 rw [Xa]
 refine go ?_
 refine (Xb (fun e k=>e.set 8 (.int .i64 (k:Int))) (fun h _=>h) (fun k=>some ⟨.int .i64 (idxF (fun e=>decide (e.key=t.op.key)) k (xs.drop k)),[]⟩) xs.length (by show _<18446744073709551616;omega) rfl ?_).trans rfl
 intro k f hk IH
 by_cases hlt:k<xs.length
 ·have e1:=Xf (f:=entA) hlt
  have e2:=Xg k
  have r1:=Xe (f:=entA) hlt
  have hw:=Xv (k:=k) (by omega)
  rw [Xq hlt]
  by_cases hv:(fun e=>decide (e.key=t.op.key)) (xs.getD k default)=true
  ·have hi:idxF (fun e=>decide (e.key=t.op.key)) k (xs.getD k default::xs.drop (k+1))=(k:Int):=if_pos hv
   rw [hi]
   have fq1:=@Xcu
   refine go ?_
   clear fq1
   try with_reducible rfl
  ·have hv':(fun e=>decide (e.key=t.op.key)) (xs.getD k default)=false:=by simpa using hv
   have hi:idxF (fun e=>decide (e.key=t.op.key)) k (xs.getD k default::xs.drop (k+1))=idxF (fun e=>decide (e.key=t.op.key)) (k+1) (xs.drop (k+1)):=if_neg hv
   rw [hi]
   have fq1:=@Xcu
   refine go ?_
   clear fq1
   try with_reducible rfl
   exact IH hlt _ _ (by rw [hw];rfl) rfl
 ·have e1:=Xh (f:=entA) (Nat.le_of_not_lt hlt)
  rw [List.drop_eq_nil_of_le (by omega)]
  refine go ?_
  try with_reducible rfl
  rfl
theorem X6e {n:Nat} {pk:Int} {t:Th} {xs:List Ent} (hx:xs.length≤maxLen):callP cfg (n+3) 322 [Yu xs,.fn 366 [.pv (thR pk t)]]=some ⟨.bool (xs.any (fun e=>decide (e.key=t.op.key))),[]⟩:=by
 rw [Xa]
 have fq1:=fun {n:Nat} {pk:Int} {t:Th}=>X4x (n:=n) (pk:=pk) (t:=t) hx
 refine go ?_
 clear fq1
 try with_reducible rfl
 rw [←V5 _ _ 0]
theorem Xj7 {n:Nat} {pk:Int} {c:Cf} {t:Th} (hc:Yp c=true) (ht:t.buf.length≤1048576):callP cfg (n+4) 346 [.agg (cfA c),.agg (thR pk t)]=some ⟨.bool (Xin c t),[]⟩:=by
 rw [Xa]
 have hx:t.buf.length≤maxLen:=by unfold maxLen;omega
 unfold Xin
 by_cases h:c.p=2
 ·have b:(c.p==2)=true:=Yk h
  rw [if_pos h]
  have fq1:=@Xx
  have fq2:=fun {n:Nat} {pk:Int} {t:Th}=>X6e (n:=n) (pk:=pk) (t:=t) hx
  refine go ?_
  clear fq1 fq2
  try with_reducible rfl
 ·have b:(c.p==2)=false:=Xt h
  rw [if_neg h]
  have fq1:=@Xx
  refine go ?_
  clear fq1
  try with_reducible rfl
  simp only [List.length_map]
theorem Zg {α:Type} {q:α→Bool} {l:List α} {d:α} {k:Nat} (h:k<l.length) (hq:q (l.getD k d)=true):(l.take (k+1)).filter q=(l.take k).filter q++[l.getD k d]:=by
 have e:l.getD k d=l[k]:=by simp [List.getD,h]
 rw [List.take_add_one,List.getElem?_eq_getElem h,List.filter_append,e]
 rw [e] at hq
 simp [hq]
theorem Zb {α:Type} {q:α→Bool} {l:List α} {d:α} {k:Nat} (h:k<l.length) (hq:q (l.getD k d)=false):(l.take (k+1)).filter q=(l.take k).filter q:=by
 have e:l.getD k d=l[k]:=by simp [List.getD,h]
 rw [List.take_add_one,List.getElem?_eq_getElem h,List.filter_append]
 rw [e] at hq
 simp [hq]
theorem Yh {α:Type} {q:α→Bool} {l:List α} {k m:Nat} (h:l.length≤m):((l.take k).filter q).length≤m:=by
 have:=List.length_filter_le q (l.take k)
 rw [List.length_take] at this
 omega
theorem Xc9 {n:Nat} {e:Ent} {x:Int}:callP cfg (n+1) 375 [.int .i64 x,.pv (entA e)]=some ⟨.bool (decide (e.lo≤x)&&decide (x<e.hi)),[]⟩:=by
 rw [Xa]
 refine goS ?_
 repeat' (refine Y9 (fun _=>?_) (fun _=>?_))
 all_goals (conv=>lhs;whnf)
 all_goals (refine okB ?_;first | (simp_all;done) | (simp_all;omega) | grind)
theorem Xex {n:Nat} {e:Ent} {x:Int}:callP cfg (n+1) 376 [.int .i64 x,.pv (entA e)]=some ⟨.bool (decide (x<e.hi)),[]⟩:=by
 rw [Xa]
 refine go ?_
 try with_reducible rfl
theorem X4y {n:Nat} {e:Ent} {xs:List Int} (hx:xs.length≤maxLen):callP cfg (n+2) 207 [Xl xs,.fn 375 [.pv (entA e)]]=some ⟨.int .i64 (idxF (fun x=>decide (e.lo≤x)&&decide (x<e.hi)) 0 xs),[]⟩:=by
 unfold maxLen at hx
 rw [Xa]
 refine go ?_
 refine (Xb (fun e k=>e.set 8 (.int .i64 (k:Int))) (fun h _=>h) (fun k=>some ⟨.int .i64 (idxF (fun x=>decide (e.lo≤x)&&decide (x<e.hi)) k (xs.drop k)),[]⟩) xs.length (by show _<18446744073709551616;omega) rfl ?_).trans rfl
 intro k f hk IH
 by_cases hlt:k<xs.length
 ·have e1:=Xf (f:=iA) hlt
  have e2:=Xg k
  have r1:=Xe (f:=iA) hlt
  have hw:=Xv (k:=k) (by omega)
  rw [Xq hlt]
  by_cases hv:(fun x=>decide (e.lo≤x)&&decide (x<e.hi)) (xs.getD k default)=true
  ·have hi:idxF (fun x=>decide (e.lo≤x)&&decide (x<e.hi)) k (xs.getD k default::xs.drop (k+1))=(k:Int):=if_pos hv
   rw [hi]
   have fq1:=@Xc9
   refine go ?_
   clear fq1
   try with_reducible rfl
  ·have hv':(fun x=>decide (e.lo≤x)&&decide (x<e.hi)) (xs.getD k default)=false:=by simpa using hv
   have hi:idxF (fun x=>decide (e.lo≤x)&&decide (x<e.hi)) k (xs.getD k default::xs.drop (k+1))=idxF (fun x=>decide (e.lo≤x)&&decide (x<e.hi)) (k+1) (xs.drop (k+1)):=if_neg hv
   rw [hi]
   have fq1:=@Xc9
   refine go ?_
   clear fq1
   try with_reducible rfl
   exact IH hlt _ _ (by rw [hw];rfl) rfl
 ·have e1:=Xh (f:=iA) (Nat.le_of_not_lt hlt)
  rw [List.drop_eq_nil_of_le (by omega)]
  refine go ?_
  try with_reducible rfl
  rfl
theorem X6f {n:Nat} {e:Ent} {xs:List Int} (hx:xs.length≤maxLen):callP cfg (n+3) 138 [Xl xs,.fn 375 [.pv (entA e)]]=some ⟨.bool (xs.any (fun x=>decide (e.lo≤x)&&decide (x<e.hi))),[]⟩:=by
 rw [Xa]
 have fq1:=fun {n:Nat} {e:Ent}=>X4y (n:=n) (e:=e) hx
 refine go ?_
 clear fq1
 try with_reducible rfl
 rw [←V5 _ _ 0]
theorem X4z {n:Nat} {e:Ent} {xs:List Int} (hx:xs.length≤maxLen):callP cfg (n+2) 207 [Xl xs,.fn 376 [.pv (entA e)]]=some ⟨.int .i64 (idxF (fun x=>decide (x<e.hi)) 0 xs),[]⟩:=by
 unfold maxLen at hx
 rw [Xa]
 refine go ?_
 refine (Xb (fun e k=>e.set 8 (.int .i64 (k:Int))) (fun h _=>h) (fun k=>some ⟨.int .i64 (idxF (fun x=>decide (x<e.hi)) k (xs.drop k)),[]⟩) xs.length (by show _<18446744073709551616;omega) rfl ?_).trans rfl
 intro k f hk IH
 by_cases hlt:k<xs.length
 ·have e1:=Xf (f:=iA) hlt
  have e2:=Xg k
  have r1:=Xe (f:=iA) hlt
  have hw:=Xv (k:=k) (by omega)
  rw [Xq hlt]
  by_cases hv:(fun x=>decide (x<e.hi)) (xs.getD k default)=true
  ·have hi:idxF (fun x=>decide (x<e.hi)) k (xs.getD k default::xs.drop (k+1))=(k:Int):=if_pos hv
   rw [hi]
   have fq1:=@Xex
   refine go ?_
   clear fq1
   try with_reducible rfl
  ·have hv':(fun x=>decide (x<e.hi)) (xs.getD k default)=false:=by simpa using hv
   have hi:idxF (fun x=>decide (x<e.hi)) k (xs.getD k default::xs.drop (k+1))=idxF (fun x=>decide (x<e.hi)) (k+1) (xs.drop (k+1)):=if_neg hv
   rw [hi]
   have fq1:=@Xex
   refine go ?_
   clear fq1
   try with_reducible rfl
   exact IH hlt _ _ (by rw [hw];rfl) rfl
 ·have e1:=Xh (f:=iA) (Nat.le_of_not_lt hlt)
  rw [List.drop_eq_nil_of_le (by omega)]
  refine go ?_
  try with_reducible rfl
  rfl
theorem X6g {n:Nat} {e:Ent} {xs:List Int} (hx:xs.length≤maxLen):callP cfg (n+3) 138 [Xl xs,.fn 376 [.pv (entA e)]]=some ⟨.bool (xs.any (fun x=>decide (x<e.hi))),[]⟩:=by
 rw [Xa]
 have fq1:=fun {n:Nat} {e:Ent}=>X4z (n:=n) (e:=e) hx
 refine go ?_
 clear fq1
 try with_reducible rfl
 rw [←V5 _ _ 0]
theorem Wd {n:Nat} {e:Ent} {xs:List Int} (hx:xs.length≤1048576):callP cfg (n+4) 367 [.agg (entA e),Xl xs]=some ⟨.bool (ndB e xs),[]⟩:=by
 rw [Xa]
 have hx2:xs.length≤maxLen:=by unfold maxLen;omega
 unfold ndB
 have fq1:=fun {n:Nat} {e:Ent}=>X6f (n:=n) (e:=e) hx2
 refine go ?_
 clear fq1
 try with_reducible rfl
theorem Xg0 {n:Nat} {e:Ent} {xs:List Int} (hx:xs.length≤1048576):callP cfg (n+4) 368 [.agg (entA e),Xl xs]=some ⟨.bool (psB e xs),[]⟩:=by
 rw [Xa]
 have hx2:xs.length≤maxLen:=by unfold maxLen;omega
 unfold psB
 have fq1:=fun {n:Nat} {e:Ent}=>X6g (n:=n) (e:=e) hx2
 refine go ?_
 clear fq1
 try with_reducible rfl
theorem Xbu {n:Nat} {q key:Int} {xs:List Ent} {ann:List Int} (hx:xs.length≤1048576) (ha:ann.length≤1048576):callP cfg (n+5) 347 [.int .i64 q,.int .i64 key,Yu xs,Xl ann]=some ⟨.tup [Yu (xs.filter fun e=>!drpB q key ann e),Yu (xs.filter fun e=>drpB q key ann e)],[]⟩:=by
 rw [Xa]
 refine go ?_
 refine (Xb (fun e k=>e.set 19 (.int .i64 (k:Int))) (fun h k=>(h.set 3 (some ⟨false,false,false,4,((xs.take k).filter fun e=>!drpB q key ann e).map entA⟩)).set 4 (some ⟨false,false,false,4,((xs.take k).filter fun e=>drpB q key ann e).map entA⟩)) (fun _=>some ⟨.tup [Yu (xs.filter fun e=>!drpB q key ann e),Yu (xs.filter fun e=>drpB q key ann e)],[]⟩) xs.length (by show _<18446744073709551616;omega) rfl ?_).trans rfl
 intro k f hk IH
 by_cases hlt:k<xs.length
 ·have e1:=Xf (f:=entA) hlt
  have e2:=Xg k
  have r1:=Xe (f:=entA) hlt
  have hw:=Xv (k:=k) (by omega)
  by_cases hq:q=1
  ·have b1:(q==1)=true:=Yk hq
   by_cases hd0:drpB q key ann (xs.getD k default)=true
   ·have hd:=hd0
    have f1:psB (xs.getD k default) ann=true:=by rw [←hd];unfold drpB;rw [if_pos hq]
    have e5:decide (((((xs.take k).filter fun e=>drpB q key ann e).map entA).length+1)*32≤Yf)=true:=decide_eq_true (by rw [List.length_map];have:=Yh (q:=fun e=>drpB q key ann e) (k:=k) hx;show _≤140737488355328;omega)
    have x1:=fun {x y:R}=>Xn (x:=x) (y:=y) e5
    have fq1:=fun {n:Nat} {e:Ent}=>Wd (n:=n) (e:=e) ha
    have fq2:=fun {n:Nat} {e:Ent}=>Xg0 (n:=n) (e:=e) ha
    refine go ?_
    clear x1 fq1 fq2
    try with_reducible rfl
    refine IH hlt _ _ (by rw [hw];rfl) (by rw [Zg (d:=default) hlt hd,Zb (d:=default) hlt (by rw [hd];rfl),List.map_append];rfl)
   ·have hd:drpB q key ann (xs.getD k default)=false:=by simpa using hd0
    have f1:psB (xs.getD k default) ann=false:=by rw [←hd];unfold drpB;rw [if_pos hq]
    have e5:decide (((((xs.take k).filter fun e=>!drpB q key ann e).map entA).length+1)*32≤Yf)=true:=decide_eq_true (by rw [List.length_map];have:=Yh (q:=fun e=>!drpB q key ann e) (k:=k) hx;show _≤140737488355328;omega)
    have x1:=fun {x y:R}=>Xn (x:=x) (y:=y) e5
    have fq1:=fun {n:Nat} {e:Ent}=>Wd (n:=n) (e:=e) ha
    have fq2:=fun {n:Nat} {e:Ent}=>Xg0 (n:=n) (e:=e) ha
    refine go ?_
    clear x1 fq1 fq2
    try with_reducible rfl
    refine IH hlt _ _ (by rw [hw];rfl) (by rw [Zb (d:=default) hlt hd,Zg (d:=default) hlt (by rw [hd];rfl),List.map_append];rfl)
  ·have b1:(q==1)=false:=Xt hq
   by_cases hq2:q=2
   ·have b2:(q==2)=true:=Yk hq2
    by_cases h1:ndB (xs.getD k default) ann=true
    ·have hd:drpB q key ann (xs.getD k default)=false:=by unfold drpB;rw [if_neg hq,if_pos hq2];simp_all
     have e5:decide (((((xs.take k).filter fun e=>!drpB q key ann e).map entA).length+1)*32≤Yf)=true:=decide_eq_true (by rw [List.length_map];have:=Yh (q:=fun e=>!drpB q key ann e) (k:=k) hx;show _≤140737488355328;omega)
     have x1:=fun {x y:R}=>Xn (x:=x) (y:=y) e5
     have fq1:=fun {n:Nat} {e:Ent}=>Wd (n:=n) (e:=e) ha
     refine go ?_
     clear x1 fq1
     try with_reducible rfl
     refine IH hlt _ _ (by rw [hw];rfl) (by rw [Zb (d:=default) hlt hd,Zg (d:=default) hlt (by rw [hd];rfl),List.map_append];rfl)
    ·have h1:ndB (xs.getD k default) ann=false:=by simpa using h1
     by_cases h2:key<0
     ·have hd:drpB q key ann (xs.getD k default)=true:=by unfold drpB;rw [if_neg hq,if_pos hq2];simp_all
      have h3:decide (key<0)=true:=decide_eq_true h2
      have e5:decide (((((xs.take k).filter fun e=>drpB q key ann e).map entA).length+1)*32≤Yf)=true:=decide_eq_true (by rw [List.length_map];have:=Yh (q:=fun e=>drpB q key ann e) (k:=k) hx;show _≤140737488355328;omega)
      have x1:=fun {x y:R}=>Xn (x:=x) (y:=y) e5
      have fq1:=fun {n:Nat} {e:Ent}=>Wd (n:=n) (e:=e) ha
      refine go ?_
      clear x1 fq1
      try with_reducible rfl
      refine IH hlt _ _ (by rw [hw];rfl) (by rw [Zg (d:=default) hlt hd,Zb (d:=default) hlt (by rw [hd];rfl),List.map_append];rfl)
     ·have h3:decide (key<0)=false:=decide_eq_false h2
      by_cases h4:key=(xs.getD k default).key
      ·have hd:drpB q key ann (xs.getD k default)=true:=by unfold drpB;rw [if_neg hq,if_pos hq2];simp_all
       have h5:(key==(xs.getD k default).key)=true:=Yk h4
       have e5:decide (((((xs.take k).filter fun e=>drpB q key ann e).map entA).length+1)*32≤Yf)=true:=decide_eq_true (by rw [List.length_map];have:=Yh (q:=fun e=>drpB q key ann e) (k:=k) hx;show _≤140737488355328;omega)
       have x1:=fun {x y:R}=>Xn (x:=x) (y:=y) e5
       have fq1:=fun {n:Nat} {e:Ent}=>Wd (n:=n) (e:=e) ha
       refine go ?_
       clear x1 fq1
       try with_reducible rfl
       refine IH hlt _ _ (by rw [hw];rfl) (by rw [Zg (d:=default) hlt hd,Zb (d:=default) hlt (by rw [hd];rfl),List.map_append];rfl)
      ·have hd:drpB q key ann (xs.getD k default)=false:=by unfold drpB;rw [if_neg hq,if_pos hq2];simp_all
       have h5:(key==(xs.getD k default).key)=false:=Xt h4
       have e5:decide (((((xs.take k).filter fun e=>!drpB q key ann e).map entA).length+1)*32≤Yf)=true:=decide_eq_true (by rw [List.length_map];have:=Yh (q:=fun e=>!drpB q key ann e) (k:=k) hx;show _≤140737488355328;omega)
       have x1:=fun {x y:R}=>Xn (x:=x) (y:=y) e5
       have fq1:=fun {n:Nat} {e:Ent}=>Wd (n:=n) (e:=e) ha
       refine go ?_
       clear x1 fq1
       try with_reducible rfl
       refine IH hlt _ _ (by rw [hw];rfl) (by rw [Zb (d:=default) hlt hd,Zg (d:=default) hlt (by rw [hd];rfl),List.map_append];rfl)
   ·have b2:(q==2)=false:=Xt hq2
    by_cases h1:ndB (xs.getD k default) ann=true
    ·have hd:drpB q key ann (xs.getD k default)=false:=by unfold drpB;rw [if_neg hq,if_neg hq2,h1];rfl
     have e5:decide (((((xs.take k).filter fun e=>!drpB q key ann e).map entA).length+1)*32≤Yf)=true:=decide_eq_true (by rw [List.length_map];have:=Yh (q:=fun e=>!drpB q key ann e) (k:=k) hx;show _≤140737488355328;omega)
     have x1:=fun {x y:R}=>Xn (x:=x) (y:=y) e5
     have fq1:=fun {n:Nat} {e:Ent}=>Wd (n:=n) (e:=e) ha
     refine go ?_
     clear x1 fq1
     try with_reducible rfl
     refine IH hlt _ _ (by rw [hw];rfl) (by rw [Zb (d:=default) hlt hd,Zg (d:=default) hlt (by rw [hd];rfl),List.map_append];rfl)
    ·have h1:ndB (xs.getD k default) ann=false:=by simpa using h1
     have hd:drpB q key ann (xs.getD k default)=true:=by unfold drpB;rw [if_neg hq,if_neg hq2,h1];rfl
     have e5:decide (((((xs.take k).filter fun e=>drpB q key ann e).map entA).length+1)*32≤Yf)=true:=decide_eq_true (by rw [List.length_map];have:=Yh (q:=fun e=>drpB q key ann e) (k:=k) hx;show _≤140737488355328;omega)
     have x1:=fun {x y:R}=>Xn (x:=x) (y:=y) e5
     have fq1:=fun {n:Nat} {e:Ent}=>Wd (n:=n) (e:=e) ha
     refine go ?_
     clear x1 fq1
     try with_reducible rfl
     refine IH hlt _ _ (by rw [hw];rfl) (by rw [Zg (d:=default) hlt hd,Zb (d:=default) hlt (by rw [hd];rfl),List.map_append];rfl)
 ·have e1:=Xh (f:=entA) (Nat.le_of_not_lt hlt)
  have hall:xs.take k=xs:=List.take_of_length_le (by omega)
  rw [hall]
  refine go ?_
  try with_reducible rfl
theorem Xhj {t:Th} {n:Int} (h:n=0):fndT t n=t.found:=by unfold fndT;rw [if_neg (by simp [h])]
theorem Xhk {t:Th} {n:Int} (h:¬n=0):fndT t n=t.found++[n]:=by unfold fndT;rw [if_pos h]
theorem X0q {s:Sta} {p:Nat} (h1:(s.th p).pos+1<s.c.th) (h0:ldL s.cells (annB s.c (s.th p).pos)=0):sk50 s p (s.th p)=setT s p {s.th p with found:=(s.th p).found,pos:=(s.th p).pos+1}:=by unfold sk50;rw [if_pos h1,show fndT (s.th p) (ld s (annB s.c (s.th p).pos))=(s.th p).found from Xhj h0]
theorem X0r {s:Sta} {p:Nat} (h1:(s.th p).pos+1<s.c.th) (h0:¬ldL s.cells (annB s.c (s.th p).pos)=0):sk50 s p (s.th p)=setT s p {s.th p with found:=(s.th p).found++[ldL s.cells (annB s.c (s.th p).pos)],pos:=(s.th p).pos+1}:=by unfold sk50;rw [if_pos h1,show fndT (s.th p) (ld s (annB s.c (s.th p).pos))=(s.th p).found++[ldL s.cells (annB s.c (s.th p).pos)] from Xhk h0]
theorem Xsv {s:Sta} {p:Nat} (h1:¬(s.th p).pos+1<s.c.th) (hk5:¬(s.th p).op.k=5) (h0:¬ldL s.cells (annB s.c (s.th p).pos)=0) (hwl:¬(s.th p).work.length+((s.th p).buf.filter fun e=>drpB s.c.p (s.th p).op.key ((s.th p).found++[ldL s.cells (annB s.c (s.th p).pos)]) e).length=0):sk50 s p (s.th p)=setT s p {s.th p with found:=((s.th p).found++[ldL s.cells (annB s.c (s.th p).pos)]),pos:=(s.th p).pos+1,buf:=((s.th p).buf.filter fun e=>!drpB s.c.p (s.th p).op.key ((s.th p).found++[ldL s.cells (annB s.c (s.th p).pos)]) e),work:=(s.th p).work++((s.th p).buf.filter fun e=>drpB s.c.p (s.th p).op.key ((s.th p).found++[ldL s.cells (annB s.c (s.th p).pos)]) e),pc:=60}:=by unfold sk50;rw [if_neg h1,show fndT (s.th p) (ld s (annB s.c (s.th p).pos))=((s.th p).found++[ldL s.cells (annB s.c (s.th p).pos)]) from Xhk h0,show (if (s.th p).op.k=5 then (-1:Int) else (s.th p).op.key)=(s.th p).op.key from if_neg hk5];dsimp only;rw [List.length_append,if_neg hwl]
theorem Xm7 {s:Sta} {p:Nat} (h1:¬(s.th p).pos+1<s.c.th) (hk5:¬(s.th p).op.k=5) (h0:¬ldL s.cells (annB s.c (s.th p).pos)=0) (hwl:(s.th p).work.length+((s.th p).buf.filter fun e=>drpB s.c.p (s.th p).op.key ((s.th p).found++[ldL s.cells (annB s.c (s.th p).pos)]) e).length=0):sk50 s p (s.th p)=setT s p (fin s.c {s.th p with found:=((s.th p).found++[ldL s.cells (annB s.c (s.th p).pos)]),pos:=(s.th p).pos+1,buf:=((s.th p).buf.filter fun e=>!drpB s.c.p (s.th p).op.key ((s.th p).found++[ldL s.cells (annB s.c (s.th p).pos)]) e),work:=(s.th p).work++((s.th p).buf.filter fun e=>drpB s.c.p (s.th p).op.key ((s.th p).found++[ldL s.cells (annB s.c (s.th p).pos)]) e),pc:=60}):=by unfold sk50;rw [if_neg h1,show fndT (s.th p) (ld s (annB s.c (s.th p).pos))=((s.th p).found++[ldL s.cells (annB s.c (s.th p).pos)]) from Xhk h0,show (if (s.th p).op.k=5 then (-1:Int) else (s.th p).op.key)=(s.th p).op.key from if_neg hk5];dsimp only;rw [List.length_append,if_pos hwl]
theorem Xsw {s:Sta} {p:Nat} (h1:¬(s.th p).pos+1<s.c.th) (hk5:(s.th p).op.k=5) (h0:¬ldL s.cells (annB s.c (s.th p).pos)=0) (hwl:¬(s.th p).work.length+((s.th p).buf.filter fun e=>drpB s.c.p (-1) ((s.th p).found++[ldL s.cells (annB s.c (s.th p).pos)]) e).length=0):sk50 s p (s.th p)=setT s p {s.th p with found:=((s.th p).found++[ldL s.cells (annB s.c (s.th p).pos)]),pos:=(s.th p).pos+1,buf:=((s.th p).buf.filter fun e=>!drpB s.c.p (-1) ((s.th p).found++[ldL s.cells (annB s.c (s.th p).pos)]) e),work:=(s.th p).work++((s.th p).buf.filter fun e=>drpB s.c.p (-1) ((s.th p).found++[ldL s.cells (annB s.c (s.th p).pos)]) e),pc:=60}:=by unfold sk50;rw [if_neg h1,show fndT (s.th p) (ld s (annB s.c (s.th p).pos))=((s.th p).found++[ldL s.cells (annB s.c (s.th p).pos)]) from Xhk h0,show (if (s.th p).op.k=5 then (-1:Int) else (s.th p).op.key)=(-1) from if_pos hk5];dsimp only;rw [List.length_append,if_neg hwl]
theorem Xiu {s:Sta} {p:Nat} (h1:¬(s.th p).pos+1<s.c.th) (hk5:(s.th p).op.k=5) (h0:¬ldL s.cells (annB s.c (s.th p).pos)=0) (hwl:(s.th p).work.length+((s.th p).buf.filter fun e=>drpB s.c.p (-1) ((s.th p).found++[ldL s.cells (annB s.c (s.th p).pos)]) e).length=0):sk50 s p (s.th p)=setT s p (fin s.c {s.th p with found:=((s.th p).found++[ldL s.cells (annB s.c (s.th p).pos)]),pos:=(s.th p).pos+1,buf:=((s.th p).buf.filter fun e=>!drpB s.c.p (-1) ((s.th p).found++[ldL s.cells (annB s.c (s.th p).pos)]) e),work:=(s.th p).work++((s.th p).buf.filter fun e=>drpB s.c.p (-1) ((s.th p).found++[ldL s.cells (annB s.c (s.th p).pos)]) e),pc:=60}):=by unfold sk50;rw [if_neg h1,show fndT (s.th p) (ld s (annB s.c (s.th p).pos))=((s.th p).found++[ldL s.cells (annB s.c (s.th p).pos)]) from Xhk h0,show (if (s.th p).op.k=5 then (-1:Int) else (s.th p).op.key)=(-1) from if_pos hk5];dsimp only;rw [List.length_append,if_pos hwl]
theorem Xsx {s:Sta} {p:Nat} (h1:¬(s.th p).pos+1<s.c.th) (hk5:¬(s.th p).op.k=5) (h0:ldL s.cells (annB s.c (s.th p).pos)=0) (hwl:¬(s.th p).work.length+((s.th p).buf.filter fun e=>drpB s.c.p (s.th p).op.key (s.th p).found e).length=0):sk50 s p (s.th p)=setT s p {s.th p with found:=(s.th p).found,pos:=(s.th p).pos+1,buf:=((s.th p).buf.filter fun e=>!drpB s.c.p (s.th p).op.key (s.th p).found e),work:=(s.th p).work++((s.th p).buf.filter fun e=>drpB s.c.p (s.th p).op.key (s.th p).found e),pc:=60}:=by unfold sk50;rw [if_neg h1,show fndT (s.th p) (ld s (annB s.c (s.th p).pos))=(s.th p).found from Xhj h0,show (if (s.th p).op.k=5 then (-1:Int) else (s.th p).op.key)=(s.th p).op.key from if_neg hk5];dsimp only;rw [List.length_append,if_neg hwl]
theorem Xm8 {s:Sta} {p:Nat} (h1:¬(s.th p).pos+1<s.c.th) (hk5:¬(s.th p).op.k=5) (h0:ldL s.cells (annB s.c (s.th p).pos)=0) (hwl:(s.th p).work.length+((s.th p).buf.filter fun e=>drpB s.c.p (s.th p).op.key (s.th p).found e).length=0):sk50 s p (s.th p)=setT s p (fin s.c {s.th p with found:=(s.th p).found,pos:=(s.th p).pos+1,buf:=((s.th p).buf.filter fun e=>!drpB s.c.p (s.th p).op.key (s.th p).found e),work:=(s.th p).work++((s.th p).buf.filter fun e=>drpB s.c.p (s.th p).op.key (s.th p).found e),pc:=60}):=by unfold sk50;rw [if_neg h1,show fndT (s.th p) (ld s (annB s.c (s.th p).pos))=(s.th p).found from Xhj h0,show (if (s.th p).op.k=5 then (-1:Int) else (s.th p).op.key)=(s.th p).op.key from if_neg hk5];dsimp only;rw [List.length_append,if_pos hwl]
theorem Xsy {s:Sta} {p:Nat} (h1:¬(s.th p).pos+1<s.c.th) (hk5:(s.th p).op.k=5) (h0:ldL s.cells (annB s.c (s.th p).pos)=0) (hwl:¬(s.th p).work.length+((s.th p).buf.filter fun e=>drpB s.c.p (-1) (s.th p).found e).length=0):sk50 s p (s.th p)=setT s p {s.th p with found:=(s.th p).found,pos:=(s.th p).pos+1,buf:=((s.th p).buf.filter fun e=>!drpB s.c.p (-1) (s.th p).found e),work:=(s.th p).work++((s.th p).buf.filter fun e=>drpB s.c.p (-1) (s.th p).found e),pc:=60}:=by unfold sk50;rw [if_neg h1,show fndT (s.th p) (ld s (annB s.c (s.th p).pos))=(s.th p).found from Xhj h0,show (if (s.th p).op.k=5 then (-1:Int) else (s.th p).op.key)=(-1) from if_pos hk5];dsimp only;rw [List.length_append,if_neg hwl]
theorem Xiv {s:Sta} {p:Nat} (h1:¬(s.th p).pos+1<s.c.th) (hk5:(s.th p).op.k=5) (h0:ldL s.cells (annB s.c (s.th p).pos)=0) (hwl:(s.th p).work.length+((s.th p).buf.filter fun e=>drpB s.c.p (-1) (s.th p).found e).length=0):sk50 s p (s.th p)=setT s p (fin s.c {s.th p with found:=(s.th p).found,pos:=(s.th p).pos+1,buf:=((s.th p).buf.filter fun e=>!drpB s.c.p (-1) (s.th p).found e),work:=(s.th p).work++((s.th p).buf.filter fun e=>drpB s.c.p (-1) (s.th p).found e),pc:=60}):=by unfold sk50;rw [if_neg h1,show fndT (s.th p) (ld s (annB s.c (s.th p).pos))=(s.th p).found from Xhj h0,show (if (s.th p).op.k=5 then (-1:Int) else (s.th p).op.key)=(-1) from if_pos hk5];dsimp only;rw [List.length_append,if_pos hwl]
theorem Xxm {n:Nat} {q key y:Int} {xs:List Ent} {ann:List Int} {r:Nat} {pth:Path} (hx:xs.length≤1048576) (ha:ann.length≤1048575):callP cfg (n+5) 347 [.int .i64 q,.int .i64 key,Yu xs,.lst 1 (Zj (.ref r pth) (ann.map iA)++[[.int .i64 y]])]=some ⟨.tup [Yu (xs.filter fun e=>!drpB q key (ann++[y]) e),Yu (xs.filter fun e=>drpB q key (ann++[y]) e)],[]⟩:=by
 have:=Xbu (n:=n) (q:=q) (key:=key) (xs:=xs) (ann:=ann++[y]) hx (by rw [List.length_append];simp only [List.length_cons,List.length_nil];omega)
 rw [Xl,List.map_append] at this
 exact this
theorem Xj8 {n:Nat} {k:Int}:callP cfg (n+1) 315 [.int .i64 k]=some ⟨.bool (k==80),[]⟩:=by
 rw [Xa]
 refine go ?_
 try with_reducible rfl
theorem Uw {n:Nat} {k:Int}:callP cfg (n+1) 313 [.int .i64 k]=some ⟨.bool (k==70),[]⟩:=by
 rw [Xa]
 refine go ?_
 try with_reducible rfl
theorem Xeo {n:Nat} {xs:List Int} {v:Int} (hx:xs.length≤1048576):callP cfg (n+1) 191 [Xl xs,.int .i64 v]=some ⟨.int .i64 (idxF (fun x=>x==v) 0 xs),[]⟩:=by
 rw [Xa]
 refine go ?_
 refine (Xb (fun e k=>e.set 8 (.int .i64 (k:Int))) (fun h _=>h) (fun k=>some ⟨.int .i64 (idxF (fun x=>x==v) k (xs.drop k)),[]⟩) xs.length (by show _<18446744073709551616;omega) rfl ?_).trans rfl
 intro k f hk IH
 by_cases hlt:k<xs.length
 ·have e1:=Xf (f:=iA) hlt
  have e2:=Xg k
  have r1:=Xe (f:=iA) hlt
  have hw:=Xv (k:=k) (by omega)
  rw [Xq hlt]
  by_cases hv:xs.getD k default=v
  ·have hi:idxF (fun x=>x==v) k (xs.getD k default::xs.drop (k+1))=(k:Int):=if_pos (by simpa using hv)
   have b1:(v==xs.getD k default)=true:=Yk hv.symm
   rw [hi]
   refine go ?_
   try with_reducible rfl
  ·have hi:idxF (fun x=>x==v) k (xs.getD k default::xs.drop (k+1))=idxF (fun x=>x==v) (k+1) (xs.drop (k+1)):=if_neg (by simpa using hv)
   have b1:(v==xs.getD k default)=false:=Xt (fun e=>hv e.symm)
   rw [hi]
   refine go ?_
   try with_reducible rfl
   exact IH hlt _ _ (by rw [hw];rfl) rfl
 ·have e1:=Xh (f:=iA) (Nat.le_of_not_lt hlt)
  rw [List.drop_eq_nil_of_le (by omega)]
  refine go ?_
  try with_reducible rfl
  rfl
theorem Xv9 {l:List Int} {v:Int}:l.any (fun x=>x==v)=l.contains v:=by
 induction l with
 | nil=>rfl
 | cons x l ih =>
   rw [List.any_cons,List.contains_cons,ih]
   congr 1
   exact Bool.beq_comm
theorem U5 {n:Nat} {xs:List Int} {v:Int} (hx:xs.length≤1048576):callP cfg (n+2) 127 [Xl xs,.int .i64 v]=some ⟨.bool (xs.contains v),[]⟩:=by
 rw [Xa]
 have fq1:=fun {n:Nat} {v:Int}=>Xeo (n:=n) (v:=v) hx
 refine go ?_
 clear fq1
 try with_reducible rfl
 exact okB ((V5 (fun x=>x==v) xs 0).trans Xv9)
theorem Xae {n:Nat} {xs fs:List Int} (hx:xs.length≤1048576) (hf:fs.length≤1048576):callP cfg (n+3) 351 [Xl xs,Xl fs]=some ⟨.tup [Xl (xs.filter fun h=>fs.contains h),Xl (xs.filter fun h=>!fs.contains h)],[]⟩:=by
 rw [Xa]
 refine go ?_
 refine (Xb (fun e k=>e.set 14 (.int .i64 (k:Int))) (fun h k=>(h.set 3 (some ⟨false,false,false,1,((xs.take k).filter fun h=>fs.contains h).map iA⟩)).set 4 (some ⟨false,false,false,1,((xs.take k).filter fun h=>!fs.contains h).map iA⟩)) (fun _=>some ⟨.tup [Xl (xs.filter fun h=>fs.contains h),Xl (xs.filter fun h=>!fs.contains h)],[]⟩) xs.length (by show _<18446744073709551616;omega) rfl ?_).trans rfl
 intro k f hk IH
 by_cases hlt:k<xs.length
 ·have e1:=Xf (f:=iA) hlt
  have e2:=Xg k
  have r1:=Xe (f:=iA) hlt
  have hw:=Xv (k:=k) (by omega)
  by_cases hb:fs.contains (xs.getD k default)=true
  ·have b1:fs.contains (xs.getD k default)=true:=hb
   have e5:decide (((((xs.take k).filter fun h=>fs.contains h).map iA).length+1)*8≤Yf)=true:=decide_eq_true (by rw [List.length_map];have:=Yh (q:=fun h=>fs.contains h) (k:=k) hx;show _≤140737488355328;omega)
   have x1:=fun {x y:R}=>Xn (x:=x) (y:=y) e5
   have fq1:=fun {n:Nat} {v:Int}=>U5 (n:=n) (v:=v) hf
   refine go ?_
   clear x1 fq1
   try with_reducible rfl
   refine IH hlt _ _ (by rw [hw];rfl) (by rw [Zg (q:=fun h=>fs.contains h) (d:=default) hlt b1,Zb (q:=fun h=>!fs.contains h) (d:=default) hlt (by rw [b1];rfl),List.map_append];rfl)
  ·have b1:fs.contains (xs.getD k default)=false:=by simpa using hb
   have e5:decide (((((xs.take k).filter fun h=>!fs.contains h).map iA).length+1)*8≤Yf)=true:=decide_eq_true (by rw [List.length_map];have:=Yh (q:=fun h=>!fs.contains h) (k:=k) hx;show _≤140737488355328;omega)
   have x1:=fun {x y:R}=>Xn (x:=x) (y:=y) e5
   have fq1:=fun {n:Nat} {v:Int}=>U5 (n:=n) (v:=v) hf
   refine go ?_
   clear x1 fq1
   try with_reducible rfl
   refine IH hlt _ _ (by rw [hw];rfl) (by rw [Zb (q:=fun h=>fs.contains h) (d:=default) hlt b1,Zg (q:=fun h=>!fs.contains h) (d:=default) hlt (by rw [b1];rfl),List.map_append];rfl)
 ·have e1:=Xh (f:=iA) (Nat.le_of_not_lt hlt)
  have hall:xs.take k=xs:=List.take_of_length_le (by omega)
  rw [hall]
  refine go ?_
  try with_reducible rfl
theorem Xpg {n:Nat} {y:Int} {xs fs:List Int} {r:Nat} {pth:Path} (hx:xs.length≤1048576) (hf:fs.length≤1048575):callP cfg (n+3) 351 [Xl xs,.lst 1 (Zj (.ref r pth) (fs.map iA)++[[.int .i64 y]])]=some ⟨.tup [Xl (xs.filter fun h=>(fs++[y]).contains h),Xl (xs.filter fun h=>!(fs++[y]).contains h)],[]⟩:=by
 have:=Xae (n:=n) (xs:=xs) (fs:=fs++[y]) hx (by rw [List.length_append];simp only [List.length_cons,List.length_nil];omega)
 rw [Xl,Xl,List.map_append] at this
 exact this
theorem X0s {s:Sta} {p:Nat} (h1:(s.th p).pos+1<2*s.c.th) (h0:ldL s.cells (hazB s.c ((s.th p).pos / 2) ((s.th p).pos % 2))=0):sk70 s p (s.th p)=setT s p {s.th p with found:=(s.th p).found,pos:=(s.th p).pos+1}:=by unfold sk70;rw [if_pos h1,show fndT (s.th p) (ld s (hazB s.c ((s.th p).pos / 2) ((s.th p).pos % 2)))=(s.th p).found from Xhj h0]
theorem X0t {s:Sta} {p:Nat} (h1:(s.th p).pos+1<2*s.c.th) (h0:¬ldL s.cells (hazB s.c ((s.th p).pos / 2) ((s.th p).pos % 2))=0):sk70 s p (s.th p)=setT s p {s.th p with found:=(s.th p).found++[ldL s.cells (hazB s.c ((s.th p).pos / 2) ((s.th p).pos % 2))],pos:=(s.th p).pos+1}:=by unfold sk70;rw [if_pos h1,show fndT (s.th p) (ld s (hazB s.c ((s.th p).pos / 2) ((s.th p).pos % 2)))=(s.th p).found++[ldL s.cells (hazB s.c ((s.th p).pos / 2) ((s.th p).pos % 2))] from Xhk h0]
theorem Xqu {l:List Int} {st:List Int×List Int}:((l.foldl Xz st).1).length=st.1.length:=by
 induction l generalizing st with
 | nil=>rfl
 | cons x l ih =>
   rw [List.foldl_cons,ih]
   unfold Xz
   split
   ·rw [List.length_set]
   ·rfl
theorem Xlo {l:List Int} {st:List Int×List Int} {k:Nat} (h:k<l.length):(l.take (k+1)).foldl Xz st=Xz ((l.take k).foldl Xz st) (l.getD k default):=by
 have e:l.getD k default=l[k]:=by simp [List.getD,h]
 rw [List.take_add_one,List.getElem?_eq_getElem h,List.foldl_append,e]
 rfl
theorem Xwa {l:List Int} {st:List Int×List Int} (h:∀ i,0≤st.1.getD i default):∀ i,0≤((l.foldl Xz st).1).getD i default:=by
 induction l generalizing st with
 | nil=>exact h
 | cons x l ih =>
   rw [List.foldl_cons]
   refine ih fun i=>?_
   unfold Xz
   split
   ·dsimp only
    rw [List.getD_eq_getElem?_getD,List.getElem?_set]
    split
    ·split
     ·have:=h (idxB x).toNat
      show (0:Int)≤_
      simp only [Option.getD_some]
      omega
     ·exact Int.le_refl _
    ·rw [←List.getD_eq_getElem?_getD];exact h i
   ·exact h i
theorem Xqv {s:Sta} (H:CV s) {i:Nat}:0≤s.gens.getD i default:=by
 by_cases h:i<s.gens.length
 ·exact (H.gn i h).1
 ·rw [List.getD_eq_getElem?_getD,List.getElem?_eq_none (by omega)];exact Int.le_refl _
theorem X0u {s:Sta} {p:Nat} (h1:¬(s.th p).pos+1<2*s.c.th) (h0:ldL s.cells (hazB s.c ((s.th p).pos / 2) ((s.th p).pos % 2))=0):sk70 s p (s.th p)=setT {s with gens:=(((s.th p).limbo.filter fun h=>!(s.th p).found.contains h).foldl Xz (s.gens,(s.th p).free)).1} p (endT {s.th p with limbo:=(s.th p).limbo.filter fun h=>(s.th p).found.contains h,free:=(((s.th p).limbo.filter fun h=>!(s.th p).found.contains h).foldl Xz (s.gens,(s.th p).free)).2} ⟨0,0⟩):=by unfold sk70;rw [if_neg h1,show fndT (s.th p) (ld s (hazB s.c ((s.th p).pos / 2) ((s.th p).pos % 2)))=(s.th p).found from Xhj h0]
theorem X0v {s:Sta} {p:Nat} (h1:¬(s.th p).pos+1<2*s.c.th) (h0:¬ldL s.cells (hazB s.c ((s.th p).pos / 2) ((s.th p).pos % 2))=0):sk70 s p (s.th p)=setT {s with gens:=(((s.th p).limbo.filter fun h=>!((s.th p).found++[ldL s.cells (hazB s.c ((s.th p).pos / 2) ((s.th p).pos % 2))]).contains h).foldl Xz (s.gens,(s.th p).free)).1} p (endT {s.th p with limbo:=(s.th p).limbo.filter fun h=>((s.th p).found++[ldL s.cells (hazB s.c ((s.th p).pos / 2) ((s.th p).pos % 2))]).contains h,free:=(((s.th p).limbo.filter fun h=>!((s.th p).found++[ldL s.cells (hazB s.c ((s.th p).pos / 2) ((s.th p).pos % 2))]).contains h).foldl Xz (s.gens,(s.th p).free)).2} ⟨0,0⟩):=by unfold sk70;rw [if_neg h1,show fndT (s.th p) (ld s (hazB s.c ((s.th p).pos / 2) ((s.th p).pos % 2)))=((s.th p).found++[ldL s.cells (hazB s.c ((s.th p).pos / 2) ((s.th p).pos % 2))]) from Xhk h0]
end Go.Proofs.YtbploohjimpcaaaGreat.A
