/- What the program's functions answer (Gs): no condition. -/
import Derived.Test.YtbploohjimpcaaaGreatGr
import Derived.Test.YtbploohjimpcaaaGreatGk
import Derived.Test.YtbploohjimpcaaaGreatGq
set_option linter.unusedVariables false
set_option linter.unusedSimpArgs false
namespace Go.Proofs.YtbploohjimpcaaaGreat.A
open Go Go.Abs
set_option maxRecDepth 100000
theorem F_spec_ClockCell {n:Nat}:callP cfg (n+1) 242 []=some ⟨.int .i64 0,[]⟩:=by
 rw [callP_succ]
 refine go ?_
 try with_reducible rfl
theorem F_spec_NewCells {n:Nat} {c:Cf} (hc:isCfB c=true):callP cfg (n+4) 163 [.agg (cfA c)]=some ⟨intsA (newSta c).cells,[]⟩:=by
 rw [callP_succ]
 have hb:=isCf_bd hc
 have hcc:=cc_eq hc
 have e0:decide (0≤ccB c)=true:=decide_eq_true (by omega)
 have e1:decide (ccB c≤ccB c)=true:=decide_eq_true (Int.le_refl _)
 have e2:decide ((ccB c).toNat*ty3.bytes≤roomB)=true:=decide_eq_true (by show _*8≤140737488355328;omega)
 have e3:decide ((0:Int)<((List.replicate (ccB c).toNat ty3.zero).length:Int))=true:=decide_eq_true (by rw [List.length_replicate];omega)
 have r1:(List.replicate (ccB c).toNat ty3.zero)[0]?=some [.int .i64 0]:=by rw [List.getElem?_replicate,if_pos (by omega)];rfl
 have st1:=r1
 have fq1:=@F_spec_IsConfig
 have fq2:=@F_spec_CellCount
 have fq3:=@F_spec_ClockCell
 have x1:=fun {x y:R}=>br_pos (x:=x) (y:=y) e2
 have x2:=fun {x y:R}=>br_pos (x:=x) (y:=y) e3
 refine go ?_
 clear fq1 fq2 fq3 x1 x2
 unfold newSta
 simp only [intsA,List.map_set,List.map_replicate]
 rfl
set_option maxHeartbeats 4000000 in
theorem F_spec_NewState {n:Nat} {c:Cf} (hc:isCfB c=true):callP cfg (n+5) 103 [.agg (cfA c)]=some ⟨.agg (staA (newSta c)),[]⟩:=by
 rw [callP_succ]
 have hb:=isCf_bd hc
 have e0:decide (0≤c.cap)=true:=decide_eq_true (by omega)
 have e1:decide (c.cap≤c.cap)=true:=decide_eq_true (Int.le_refl _)
 have e2:decide (c.cap.toNat*ty3.bytes≤roomB)=true:=decide_eq_true (by show _*8≤140737488355328;omega)
 have fq1:=@F_spec_IsConfig
 have fq2:=fun {n:Nat}=>F_spec_NewCells (n:=n) hc
 have x1:=fun {x y:R}=>br_pos (x:=x) (y:=y) e2
 refine goD ?_
 clear fq1 fq2 x1
 refine (evLoop_run (fun e k=>e.set 4 (.int .i64 (k:Int))) (fun h k=>h.set 10 (some ⟨false,false,true,13,[[.int .i64 c.th,.int .i64 c.keys,.int .i64 c.cap,.int .i64 c.b,.int .i64 c.p,.int .i64 c.cm,intsA (newSta c).cells,.lst 1 (List.replicate c.cap.toNat ty3.zero),.lst 19 (List.replicate k (thA th0)),.int .i64 0,.int .i64 0,.int .i64 0,.int .i64 0]]⟩)) (fun _=>some ⟨.agg (staA (newSta c)),[]⟩) c.th.toNat (by show _<18446744073709551616;omega) rfl ?_).trans rfl
 intro k f hk IH
 by_cases hlt:(k:Int)<c.th
 ·have b1:decide ((k:Int)<c.th)=true:=decide_eq_true hlt
  have hw:=wrapS (k:=k) (by omega)
  have e3:decide (((List.replicate k (thA th0)).length+1)*232≤roomB)=true:=decide_eq_true (by rw [List.length_replicate];show _≤140737488355328;omega)
  have x1:=fun {x y:R}=>br_pos (x:=x) (y:=y) e3
  refine go ?_
  clear x1
  try with_reducible rfl
  exact IH (by omega) _ _ (by rw [hw];rfl) (by rw [List.replicate_succ'];rfl)
 ·have b1:decide ((k:Int)<c.th)=false:=decide_eq_false hlt
  obtain rfl:k=c.th.toNat:=by omega
  refine go ?_
  try with_reducible rfl
  refine okM ?_
  unfold newSta
  simp only [staA,intsA,thsA,List.map_replicate]
  rfl
def mac0:Mac:=⟨⟨⟨0,0,0,0,0,0⟩,[],[],[],0,0,0,0⟩,[],[],[],0⟩
theorem okMB2 {a b:List AV} {x y:Bool} (h:a=b) (h2:x=y):some (⟨.tup [.agg a,.bool x],[]⟩:Res)=some ⟨.tup [.agg b,.bool y],[]⟩:=by rw [h,h2]
theorem F_spec_l18Program {n:Nat} {l:List Op3} (hx:l.length≤1048576):callP cfg (n+3) 102 [opsA l]=some ⟨.bool (progB l),[]⟩:=by
 rw [callP_succ]
 unfold progB
 refine go ?_
 refine (evLoop_run (fun e k=>e.set 3 (.int .i64 (k:Int))) (fun h _=>h) (fun k=>some ⟨.bool ((l.drop k).all isOpB&&decide (l.length≤20)),[]⟩) l.length (by show _<18446744073709551616;omega) rfl ?_).trans rfl
 intro k f hk IH
 by_cases hlt:k<l.length
 ·have e1:=lt_map (f:=opA) hlt
  have e2:=nonneg k
  have r1:=map_get (f:=opA) hlt
  have hw:=wrapS (k:=k) (by omega)
  rw [drop_cons hlt,List.all_cons]
  by_cases hv:isOpB (l.getD k default)=true
  ·rw [hv,Bool.true_and]
   have fq1:=@F_spec_IsOp
   refine go ?_
   clear fq1
   try with_reducible rfl
   exact IH hlt _ _ (by rw [hw];rfl) rfl
  ·replace hv:isOpB (l.getD k default)=false:=by simpa only [Bool.not_eq_true] using hv
   rw [hv,Bool.false_and]
   have fq1:=@F_spec_IsOp
   refine go ?_
   clear fq1
   try with_reducible rfl
   all_goals rfl
 ·have e1:=nlt_map (f:=opA) (Nat.le_of_not_lt hlt)
  rw [List.drop_eq_nil_of_le (by omega)]
  by_cases h20:l.length≤20
  ·have b:decide ((((l.map opA).length:Nat):Int)≤20)=true:=decide_eq_true (by rw [List.length_map];omega)
   rw [decide_eq_true h20]
   refine go ?_
   try with_reducible rfl
   all_goals exact okB b
  ·have b:decide ((((l.map opA).length:Nat):Int)≤20)=false:=decide_eq_false (by rw [List.length_map];omega)
   rw [decide_eq_false h20]
   refine go ?_
   try with_reducible rfl
   all_goals exact okB b
set_option maxHeartbeats 8000000 in
theorem F_spec_NewMachine {n:Nat} {c:Cf} {ps:List (List Op3)} (hx:ps.length≤1048576) (hxs:∀ l∈ps,l.length≤1048576):callP cfg (n+6) 49 [.agg (cfA c),progsA ps]=some ⟨.tup [.agg (if progsB c ps=true then macA (newMac c ps) else macA mac0),.bool (progsB c ps)],[]⟩:=by
 rw [callP_succ]
 unfold progsB eqI
 by_cases h1:isCfB c=true
 ·rw [h1,Bool.true_and]
  have hb:=isCf_bd h1
  by_cases h2:(ps.length:Int)=c.th
  ·rw [decide_eq_true h2,Bool.true_and]
   have b:((((ps.map progA).length:Nat):Int) !=c.th)=false:=bne_f (by rw [List.length_map];exact h2)
   have e0:decide (0≤c.th)=true:=decide_eq_true (by omega)
   have e1:decide (c.th≤c.th)=true:=decide_eq_true (Int.le_refl _)
   have e2:decide (c.th.toNat*ty3.bytes≤roomB)=true:=decide_eq_true (by show _*8≤140737488355328;omega)
   have fq1:=@F_spec_IsConfig
   have fq2:=fun {n:Nat}=>F_spec_NewState (n:=n) h1
   have x1:=fun {x y:R}=>br_pos (x:=x) (y:=y) e2
   refine goD ?_
   clear fq1 fq2 x1
   refine (evLoop_run (fun e k=>e.set 7 (.int .i64 (k:Int))) (fun h k=>h.set 9 (some ⟨false,false,true,17,[[.int .i64 (newSta c).c.th,.int .i64 (newSta c).c.keys,.int .i64 (newSta c).c.cap,.int .i64 (newSta c).c.b,.int .i64 (newSta c).c.p,.int .i64 (newSta c).c.cm,intsA (newSta c).cells,intsA (newSta c).gens,thsA (newSta c).ths,.int .i64 (newSta c).steps,.int .i64 (newSta c).changes,.int .i64 (newSta c).retries,.int .i64 (newSta c).faults,.lst 1 ((ps.take k).map progA),.lst 1 (List.replicate c.th.toNat ty3.zero),.lst 8 [],.int .i64 0]]⟩)) (fun k=>some ⟨.tup [.agg (if (ps.drop k).all progB=true then macA (newMac c ps) else macA mac0),.bool ((ps.drop k).all progB)],[]⟩) ps.length (by show _<18446744073709551616;omega) rfl ?_).trans rfl
   intro k f hk IH
   by_cases hlt:k<ps.length
   ·have e1:=lt_map (f:=progA) hlt
    have e2:=nonneg k
    have r1:=map_get (f:=progA) hlt
    have hw:=wrapS (k:=k) (by omega)
    have hm:=hxs _ (getD_mem hlt)
    rw [drop_cons hlt,List.all_cons]
    by_cases hv:progB (ps.getD k default)=true
    ·rw [hv,Bool.true_and]
     have l1:leafRows ((ps.getD k default).map opA)=true:=leafRows_map fun x=>rfl
     have m1:decide ((([]:List (List AV)).length+((ps.getD k default).map opA).length)*24≤roomB)=true:=decide_eq_true (by simp only [List.length_nil,Nat.zero_add,List.length_map];show _≤140737488355328;omega)
     have e3:decide ((((ps.take k).map progA).length+1)*24≤roomB)=true:=decide_eq_true (by
      have:((ps.take k).map progA).length=k:=by rw [List.length_map,List.length_take];omega
      rw [this];show _≤140737488355328;omega)
     have fq1:=fun {n:Nat}=>F_spec_l18Program (n:=n) hm
     have x1:=fun {x y:R}=>br_pos (x:=x) (y:=y) m1
     have x2:=fun {x y:R}=>br_pos (x:=x) (y:=y) e3
     refine goD ?_
     clear fq1 x1 x2
     try with_reducible rfl
     exact IH hlt _ _ (by rw [hw];rfl) (by rw [←take_snoc hlt];rfl)
    ·replace hv:progB (ps.getD k default)=false:=by simpa only [Bool.not_eq_true] using hv
     rw [hv,Bool.false_and,if_neg (by simp)]
     have fq1:=fun {n:Nat}=>F_spec_l18Program (n:=n) hm
     refine goD ?_
     clear fq1
     try with_reducible rfl
     all_goals rfl
   ·have e1:=nlt_map (f:=progA) (Nat.le_of_not_lt hlt)
    obtain rfl:k=ps.length:=by omega
    rw [List.drop_eq_nil_of_le (by omega),if_pos (by rfl),List.take_length]
    refine go ?_
    try with_reducible rfl
    refine okMB2 ?_ rfl
    unfold newMac
    simp only [macA,intsA,evsA,List.map_replicate]
    rfl
  ·rw [decide_eq_false h2,Bool.false_and,if_neg (by simp)]
   have b:((((ps.map progA).length:Nat):Int) !=c.th)=true:=bne_t (by rw [List.length_map];exact h2)
   have fq1:=@F_spec_IsConfig
   refine go ?_
   clear fq1
   try with_reducible rfl
   all_goals rfl
 ·replace h1:isCfB c=false:=by simpa only [Bool.not_eq_true] using h1
  rw [h1,Bool.false_and,if_neg (by simp)]
  have fq1:=@F_spec_IsConfig
  refine go ?_
  clear fq1
  try with_reducible rfl
  all_goals rfl
end Go.Proofs.YtbploohjimpcaaaGreat.A
