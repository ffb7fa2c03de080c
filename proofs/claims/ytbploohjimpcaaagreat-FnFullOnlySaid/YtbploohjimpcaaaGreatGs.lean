/- What the program's functions answer (Gs): no condition. -/
import Derived.Test.YtbploohjimpcaaaGreatGr
import Derived.Test.YtbploohjimpcaaaGreatGk
import Derived.Test.YtbploohjimpcaaaGreatGq
set_option linter.unusedVariables false
set_option linter.unusedSimpArgs false
namespace Go.Proofs.YtbploohjimpcaaaGreat.A
open Go Go.Abs
set_option maxRecDepth 100000
theorem Xkd {n:Nat}:callP cfg (n+1) 242 []=some ⟨.int .i64 0,[]⟩:=by
 rw [Xa]
 refine go ?_
 try with_reducible rfl
theorem Xk6 {n:Nat} {c:Cf} (hc:Yp c=true):callP cfg (n+4) 163 [.agg (cfA c)]=some ⟨Xl (Za c).cells,[]⟩:=by
 rw [Xa]
 have hb:=Xm hc
 have hcc:=Xig hc
 have e0:decide (0≤ccB c)=true:=decide_eq_true (by omega)
 have e1:decide (ccB c≤ccB c)=true:=decide_eq_true (Int.le_refl _)
 have e2:decide ((ccB c).toNat*ty3.bytes≤Yf)=true:=decide_eq_true (by show _*8≤140737488355328;omega)
 have e3:decide ((0:Int)<((List.replicate (ccB c).toNat ty3.zero).length:Int))=true:=decide_eq_true (by rw [List.length_replicate];omega)
 have r1:(List.replicate (ccB c).toNat ty3.zero)[0]?=some [.int .i64 0]:=by rw [List.getElem?_replicate,if_pos (by omega)];rfl
 have st1:=r1
 have fq1:=@X0
 have fq2:=@W6
 have fq3:=@Xkd
 have x1:=fun {x y:R}=>Xn (x:=x) (y:=y) e2
 have x2:=fun {x y:R}=>Xn (x:=x) (y:=y) e3
 refine go ?_
 clear fq1 fq2 fq3 x1 x2
 unfold Za
 simp only [Xl,List.map_set,List.map_replicate]
 rfl
set_option maxHeartbeats 4000000 in
theorem Xk7 {n:Nat} {c:Cf} (hc:Yp c=true):callP cfg (n+5) 103 [.agg (cfA c)]=some ⟨.agg (staA (Za c)),[]⟩:=by
 rw [Xa]
 have hb:=Xm hc
 have e0:decide (0≤c.cap)=true:=decide_eq_true (by omega)
 have e1:decide (c.cap≤c.cap)=true:=decide_eq_true (Int.le_refl _)
 have e2:decide (c.cap.toNat*ty3.bytes≤Yf)=true:=decide_eq_true (by show _*8≤140737488355328;omega)
 have fq1:=@X0
 have fq2:=fun {n:Nat}=>Xk6 (n:=n) hc
 have x1:=fun {x y:R}=>Xn (x:=x) (y:=y) e2
 refine goD ?_
 clear fq1 fq2 x1
 refine (Xb (fun e k=>e.set 4 (.int .i64 (k:Int))) (fun h k=>h.set 10 (some ⟨false,false,true,13,[[.int .i64 c.th,.int .i64 c.keys,.int .i64 c.cap,.int .i64 c.b,.int .i64 c.p,.int .i64 c.cm,Xl (Za c).cells,.lst 1 (List.replicate c.cap.toNat ty3.zero),.lst 19 (List.replicate k (thA th0)),.int .i64 0,.int .i64 0,.int .i64 0,.int .i64 0]]⟩)) (fun _=>some ⟨.agg (staA (Za c)),[]⟩) c.th.toNat (by show _<18446744073709551616;omega) rfl ?_).trans rfl
 intro k f hk IH
 by_cases hlt:(k:Int)<c.th
 ·have b1:decide ((k:Int)<c.th)=true:=decide_eq_true hlt
  have hw:=Xv (k:=k) (by omega)
  have e3:decide (((List.replicate k (thA th0)).length+1)*232≤Yf)=true:=decide_eq_true (by rw [List.length_replicate];show _≤140737488355328;omega)
  have x1:=fun {x y:R}=>Xn (x:=x) (y:=y) e3
  refine go ?_
  clear x1
  try with_reducible rfl
  exact IH (by omega) _ _ (by rw [hw];rfl) (by rw [List.replicate_succ'];rfl)
 ·have b1:decide ((k:Int)<c.th)=false:=decide_eq_false hlt
  obtain rfl:k=c.th.toNat:=by omega
  refine go ?_
  try with_reducible rfl
  refine okM ?_
  unfold Za
  simp only [staA,Xl,thsA,List.map_replicate]
  rfl
def mac0:Mac:=⟨⟨⟨0,0,0,0,0,0⟩,[],[],[],0,0,0,0⟩,[],[],[],0⟩
theorem X60 {a b:List AV} {x y:Bool} (h:a=b) (h2:x=y):some (⟨.tup [.agg a,.bool x],[]⟩:Res)=some ⟨.tup [.agg b,.bool y],[]⟩:=by rw [h,h2]
theorem Vr {n:Nat} {l:List Op3} (hx:l.length≤1048576):callP cfg (n+3) 102 [opsA l]=some ⟨.bool (Vz l),[]⟩:=by
 rw [Xa]
 unfold Vz
 refine go ?_
 refine (Xb (fun e k=>e.set 3 (.int .i64 (k:Int))) (fun h _=>h) (fun k=>some ⟨.bool ((l.drop k).all Vx&&decide (l.length≤20)),[]⟩) l.length (by show _<18446744073709551616;omega) rfl ?_).trans rfl
 intro k f hk IH
 by_cases hlt:k<l.length
 ·have e1:=Xf (f:=opA) hlt
  have e2:=Xg k
  have r1:=Xe (f:=opA) hlt
  have hw:=Xv (k:=k) (by omega)
  rw [Xq hlt,List.all_cons]
  by_cases hv:Vx (l.getD k default)=true
  ·rw [hv,Bool.true_and]
   have fq1:=@Yn
   refine go ?_
   clear fq1
   try with_reducible rfl
   exact IH hlt _ _ (by rw [hw];rfl) rfl
  ·replace hv:Vx (l.getD k default)=false:=by simpa only [Bool.not_eq_true] using hv
   rw [hv,Bool.false_and]
   have fq1:=@Yn
   refine go ?_
   clear fq1
   try with_reducible rfl
   all_goals rfl
 ·have e1:=Xh (f:=opA) (Nat.le_of_not_lt hlt)
  rw [List.drop_eq_nil_of_le (by omega)]
  by_cases h20:l.length≤20
  ·have b:decide ((((l.map opA).length:Nat):Int)≤20)=true:=decide_eq_true (by rw [List.length_map];omega)
   rw [decide_eq_true h20]
   refine go ?_
   try with_reducible rfl
   all_goals exact okB b
  ·have b:decide ((((l.map opA).length:Nat):Int)≤20)=false:=decide_eq_false (by rw [List.length_map];omega)
   rw [decide_eq_false h20]
   refine go ?_
   try with_reducible rfl
   all_goals exact okB b
set_option maxHeartbeats 8000000 in
theorem Wp {n:Nat} {c:Cf} {ps:List (List Op3)} (hx:ps.length≤1048576) (hxs:∀ l∈ps,l.length≤1048576):callP cfg (n+6) 49 [.agg (cfA c),Yt ps]=some ⟨.tup [.agg (if Vv c ps=true then macA (Uf c ps) else macA mac0),.bool (Vv c ps)],[]⟩:=by
 rw [Xa]
 unfold Vv eqI
 by_cases h1:Yp c=true
 ·rw [h1,Bool.true_and]
  have hb:=Xm h1
  by_cases h2:(ps.length:Int)=c.th
  ·rw [decide_eq_true h2,Bool.true_and]
   have b:((((ps.map Xp).length:Nat):Int) !=c.th)=false:=Yb (by rw [List.length_map];exact h2)
   have e0:decide (0≤c.th)=true:=decide_eq_true (by omega)
   have e1:decide (c.th≤c.th)=true:=decide_eq_true (Int.le_refl _)
   have e2:decide (c.th.toNat*ty3.bytes≤Yf)=true:=decide_eq_true (by show _*8≤140737488355328;omega)
   have fq1:=@X0
   have fq2:=fun {n:Nat}=>Xk7 (n:=n) h1
   have x1:=fun {x y:R}=>Xn (x:=x) (y:=y) e2
   refine goD ?_
   clear fq1 fq2 x1
   refine (Xb (fun e k=>e.set 7 (.int .i64 (k:Int))) (fun h k=>h.set 9 (some ⟨false,false,true,17,[[.int .i64 (Za c).c.th,.int .i64 (Za c).c.keys,.int .i64 (Za c).c.cap,.int .i64 (Za c).c.b,.int .i64 (Za c).c.p,.int .i64 (Za c).c.cm,Xl (Za c).cells,Xl (Za c).gens,thsA (Za c).ths,.int .i64 (Za c).steps,.int .i64 (Za c).changes,.int .i64 (Za c).retries,.int .i64 (Za c).faults,.lst 1 ((ps.take k).map Xp),.lst 1 (List.replicate c.th.toNat ty3.zero),.lst 8 [],.int .i64 0]]⟩)) (fun k=>some ⟨.tup [.agg (if (ps.drop k).all Vz=true then macA (Uf c ps) else macA mac0),.bool ((ps.drop k).all Vz)],[]⟩) ps.length (by show _<18446744073709551616;omega) rfl ?_).trans rfl
   intro k f hk IH
   by_cases hlt:k<ps.length
   ·have e1:=Xf (f:=Xp) hlt
    have e2:=Xg k
    have r1:=Xe (f:=Xp) hlt
    have hw:=Xv (k:=k) (by omega)
    have hm:=hxs _ (Xi hlt)
    rw [Xq hlt,List.all_cons]
    by_cases hv:Vz (ps.getD k default)=true
    ·rw [hv,Bool.true_and]
     have l1:Y0 ((ps.getD k default).map opA)=true:=Yx fun x=>rfl
     have m1:decide ((([]:List (List AV)).length+((ps.getD k default).map opA).length)*24≤Yf)=true:=decide_eq_true (by simp only [List.length_nil,Nat.zero_add,List.length_map];show _≤140737488355328;omega)
     have e3:decide ((((ps.take k).map Xp).length+1)*24≤Yf)=true:=decide_eq_true (by
      have:((ps.take k).map Xp).length=k:=by rw [List.length_map,List.length_take];omega
      rw [this];show _≤140737488355328;omega)
     have fq1:=fun {n:Nat}=>Vr (n:=n) hm
     have x1:=fun {x y:R}=>Xn (x:=x) (y:=y) m1
     have x2:=fun {x y:R}=>Xn (x:=x) (y:=y) e3
     refine goD ?_
     clear fq1 x1 x2
     try with_reducible rfl
     exact IH hlt _ _ (by rw [hw];rfl) (by rw [←Xb6 hlt];rfl)
    ·replace hv:Vz (ps.getD k default)=false:=by simpa only [Bool.not_eq_true] using hv
     rw [hv,Bool.false_and,if_neg (by simp)]
     have fq1:=fun {n:Nat}=>Vr (n:=n) hm
     refine goD ?_
     clear fq1
     try with_reducible rfl
     all_goals rfl
   ·have e1:=Xh (f:=Xp) (Nat.le_of_not_lt hlt)
    obtain rfl:k=ps.length:=by omega
    rw [List.drop_eq_nil_of_le (by omega),if_pos (by rfl),List.take_length]
    refine go ?_
    try with_reducible rfl
    refine X60 ?_ rfl
    unfold Uf
    simp only [macA,Xl,evsA,List.map_replicate]
    rfl
  ·rw [decide_eq_false h2,Bool.false_and,if_neg (by simp)]
   have b:((((ps.map Xp).length:Nat):Int) !=c.th)=true:=Zn (by rw [List.length_map];exact h2)
   have fq1:=@X0
   refine go ?_
   clear fq1
   try with_reducible rfl
   all_goals rfl
 ·replace h1:Yp c=false:=by simpa only [Bool.not_eq_true] using h1
  rw [h1,Bool.false_and,if_neg (by simp)]
  have fq1:=@X0
  refine go ?_
  clear fq1
  try with_reducible rfl
  all_goals rfl
end Go.Proofs.YtbploohjimpcaaaGreat.A
