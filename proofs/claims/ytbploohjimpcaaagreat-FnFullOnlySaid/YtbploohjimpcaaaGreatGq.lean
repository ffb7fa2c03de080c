/- What the program's functions answer (Gq): no condition. -/
import Derived.Test.YtbploohjimpcaaaGreatGp
import Derived.Test.YtbploohjimpcaaaGreatGh
import Derived.Test.YtbploohjimpcaaaGreatLib3
set_option linter.unusedVariables false
set_option linter.unusedSimpArgs false
namespace Go.Proofs.YtbploohjimpcaaaGreat.A
open Go Go.Abs
set_option maxRecDepth 100000
theorem Xkc {n:Nat} {l:List Op3} (hx:l.length≤1048576):callP cfg (n+3) 185 [opsA l]=some ⟨.bool (Vz l),[]⟩:=by
 rw [Xa]
 unfold Vz
 refine go ?_
 refine (Xb (fun e k=>e.set 7 (.int .i64 (k:Int))) (fun h _=>h) (fun k=>some ⟨.bool ((l.drop k).all Vx&&decide (l.length≤20)),[]⟩) l.length (by show _<18446744073709551616;omega) rfl ?_).trans rfl
 intro k f hk IH
 by_cases hlt:k<l.length
 ·have e1:=Xf (f:=opA) hlt
  have e2:=Xg k
  have r1:=Xe (f:=opA) hlt
  have hw:=Xv (k:=k) (by omega)
  rw [Xq hlt,List.all_cons]
  by_cases hv:Vx (l.getD k default)=true
  ·rw [hv,Bool.true_and]
   have fq1:=@Ya
   refine go ?_
   clear fq1
   try with_reducible rfl
   exact IH hlt _ _ (by rw [hw];rfl) rfl
  ·replace hv:Vx (l.getD k default)=false:=by simpa only [Bool.not_eq_true] using hv
   rw [hv,Bool.false_and]
   have fq1:=@Ya
   refine go ?_
   clear fq1
   try with_reducible rfl
   all_goals rfl
 ·have e1:=Xh (f:=opA) (Nat.le_of_not_lt hlt)
  rw [List.drop_eq_nil_of_le (by omega)]
  by_cases h20:l.length≤20
  ·have b:decide ((((l.map opA).length:Nat):Int)≤20)=true:=decide_eq_true (by rw [List.length_map];omega)
   rw [decide_eq_true h20]
   refine go ?_
   try with_reducible rfl
   all_goals exact okB b
  ·have b:decide ((((l.map opA).length:Nat):Int)≤20)=false:=decide_eq_false (by rw [List.length_map];omega)
   rw [decide_eq_false h20]
   refine go ?_
   try with_reducible rfl
   all_goals exact okB b
theorem Xbd {n:Nat} {l:List Op3} (hx:l.length≤1048576):callP cfg (n+4) 184 [opsA l]=some ⟨.bool (!Vz l),[]⟩:=by
 rw [Xa]
 have fq1:=fun {n:Nat}=>Xkc (n:=n) hx
 refine go ?_
 clear fq1
 try with_reducible rfl
 all_goals rfl
theorem X25 {n:Nat} {xs:List (List Op3)} (hx:xs.length≤maxLen) (hxs:∀ l∈xs,l.length≤1048576):callP cfg (n+5) 271 [Yt xs,.fn 184 []]=some ⟨.int .i64 (idxF (fun l=>!Vz l) 0 xs),[]⟩:=by
 unfold maxLen at hx
 rw [Xa]
 refine go ?_
 refine (Xb (fun e k=>e.set 8 (.int .i64 (k:Int))) (fun h _=>h) (fun k=>some ⟨.int .i64 (idxF (fun l=>!Vz l) k (xs.drop k)),[]⟩) xs.length (by show _<18446744073709551616;omega) rfl ?_).trans rfl
 intro k f hk IH
 by_cases hlt:k<xs.length
 ·have e1:=Xf (f:=Xp) hlt
  have e2:=Xg k
  have r1:=Xe (f:=Xp) hlt
  have hw:=Xv (k:=k) (by omega)
  have hm:=hxs _ (Xi hlt)
  rw [Xq hlt]
  by_cases hv:(fun l=>!Vz l) (xs.getD k default)=true
  ·have hi:idxF (fun l=>!Vz l) k (xs.getD k default::xs.drop (k+1))=(k:Int):=if_pos hv
   rw [hi]
   have fq1:=fun {n:Nat}=>Xbd (n:=n) hm
   refine go ?_
   clear fq1
   try with_reducible rfl
  ·have hv':(fun l=>!Vz l) (xs.getD k default)=false:=by simpa using hv
   have hi:idxF (fun l=>!Vz l) k (xs.getD k default::xs.drop (k+1))=idxF (fun l=>!Vz l) (k+1) (xs.drop (k+1)):=if_neg hv
   rw [hi]
   have fq1:=fun {n:Nat}=>Xbd (n:=n) hm
   refine go ?_
   clear fq1
   try with_reducible rfl
   exact IH hlt _ _ (by rw [hw];rfl) rfl
 ·have e1:=Xh (f:=Xp) (Nat.le_of_not_lt hlt)
  rw [List.drop_eq_nil_of_le (by omega)]
  refine go ?_
  try with_reducible rfl
  rfl
theorem X5o {n:Nat} {xs:List (List Op3)} (hx:xs.length≤maxLen) (hxs:∀ l∈xs,l.length≤1048576):callP cfg (n+6) 183 [Yt xs,.fn 184 []]=some ⟨.bool (xs.any (fun l=>!Vz l)),[]⟩:=by
 rw [Xa]
 have fq1:=fun {n:Nat}=>X25 (n:=n) hx hxs
 refine go ?_
 clear fq1
 try with_reducible rfl
 rw [←V5 _ _ 0]
theorem Xkx {α:Type} {p:α→Bool} {l:List α}:(!l.any fun x=>!p x)=l.all p:=by
 induction l with
 | nil=>rfl
 | cons x l ih=>rw [List.any_cons,List.all_cons,←ih];cases p x <;> simp
theorem Vd {n:Nat} {c:Cf} {ps:List (List Op3)} (hx:ps.length≤1048576) (hxs:∀ l∈ps,l.length≤1048576):callP cfg (n+8) 119 [.agg (cfA c),Yt ps]=some ⟨.bool (Vv c ps),[]⟩:=by
 rw [Xa]
 have hx2:ps.length≤maxLen:=by unfold maxLen;omega
 unfold Vv eqI
 by_cases h1:Yp c=true
 ·rw [h1,Bool.true_and]
  by_cases h2:(ps.length:Int)=c.th
  ·rw [decide_eq_true h2,Bool.true_and,←Xkx]
   have b:((((ps.map Xp).length:Nat):Int)==c.th)=true:=Yk (by rw [List.length_map];exact h2)
   have fq1:=@Xx
   have fq2:=fun {n:Nat}=>X5o (n:=n) hx2 hxs
   refine go ?_
   clear fq1 fq2
   try with_reducible rfl
   all_goals rfl
  ·rw [decide_eq_false h2,Bool.false_and]
   have b:((((ps.map Xp).length:Nat):Int)==c.th)=false:=Xt (by rw [List.length_map];exact h2)
   have fq1:=@Xx
   refine go ?_
   clear fq1
   try with_reducible rfl
 ·replace h1:Yp c=false:=by simpa only [Bool.not_eq_true] using h1
  rw [h1,Bool.false_and]
  have fq1:=@Xx
  refine go ?_
  clear fq1
  try with_reducible rfl
theorem Xa0 {n:Nat} {xs:List Op3} (hx:xs.length*24≤140737488355328):callP cfg (n+1) 209 [opsA xs]=some ⟨opsA xs,[]⟩:=by
 rw [Xa]
 have e2:Y0 (xs.map opA)=true:=Yx fun x=>rfl
 have e3:decide ((([]:List (List AV)).length+(xs.map opA).length)*24≤Yf)=true:=decide_eq_true (by simp only [List.length_nil,Nat.zero_add,List.length_map];exact hx)
 by_cases h0:xs=[]
 ·subst h0
  repeat' ((conv=>lhs;whnf);first | (with_reducible refine Vb.trans ?_) | (with_reducible refine V1.trans ?_) | (with_reducible refine Xcb.trans ?_) | (with_reducible refine V2.trans ?_) | (with_reducible refine Qx.trans ?_) | (with_reducible refine Up.trans ?_) | (with_reducible refine Qy.trans ?_) | (with_reducible refine Qz.trans ?_) | (with_reducible refine Xcc.trans ?_) | (with_reducible refine Qv.trans ?_) | (with_reducible refine Qw.trans ?_) | (with_reducible refine Wl.trans ?_) | (with_reducible refine Vc.trans ?_) | (with_reducible refine (Vn _ _).trans ?_) | (with_reducible refine (Wk _ _).trans ?_) | (with_reducible refine (Xn (by assumption)).trans ?_) | (with_reducible refine (Uk (by assumption)).trans ?_) | (with_reducible refine (Xo8 (by assumption)).trans ?_) | (with_reducible refine (Xo9 (by assumption)).trans ?_) | (with_reducible refine (Qb _ _ _).trans ?_) | (with_reducible refine (Qc _ _ _).trans ?_) | (refine Xld ?_ ?_) | (with_reducible refine (Xn (by with_unfolding_all rfl)).trans ?_) | fail)
  all_goals (conv=>lhs;whnf)
  all_goals rfl
 ·have e1:decide ((xs.map opA).length=0)=false:=decide_eq_false (by simpa using h0)
  have x1:=fun {x y:R}=>Xn (x:=x) (y:=y) e3
  refine go ?_
  clear x1
  try with_reducible rfl
  rfl
theorem U7 {n:Nat} {xs:List Ev} (hx:xs.length*64≤140737488355328):callP cfg (n+1) 165 [evsA xs]=some ⟨evsA xs,[]⟩:=by
 rw [Xa]
 have e2:Y0 (xs.map evA)=true:=Yx fun x=>rfl
 have e3:decide ((([]:List (List AV)).length+(xs.map evA).length)*64≤Yf)=true:=decide_eq_true (by simp only [List.length_nil,Nat.zero_add,List.length_map];exact hx)
 by_cases h0:xs=[]
 ·subst h0
  repeat' ((conv=>lhs;whnf);first | (with_reducible refine Vb.trans ?_) | (with_reducible refine V1.trans ?_) | (with_reducible refine Xcb.trans ?_) | (with_reducible refine V2.trans ?_) | (with_reducible refine Qx.trans ?_) | (with_reducible refine Up.trans ?_) | (with_reducible refine Qy.trans ?_) | (with_reducible refine Qz.trans ?_) | (with_reducible refine Xcc.trans ?_) | (with_reducible refine Qv.trans ?_) | (with_reducible refine Qw.trans ?_) | (with_reducible refine Wl.trans ?_) | (with_reducible refine Vc.trans ?_) | (with_reducible refine (Vn _ _).trans ?_) | (with_reducible refine (Wk _ _).trans ?_) | (with_reducible refine (Xn (by assumption)).trans ?_) | (with_reducible refine (Uk (by assumption)).trans ?_) | (with_reducible refine (Xo8 (by assumption)).trans ?_) | (with_reducible refine (Xo9 (by assumption)).trans ?_) | (with_reducible refine (Qb _ _ _).trans ?_) | (with_reducible refine (Qc _ _ _).trans ?_) | (refine Xld ?_ ?_) | (with_reducible refine (Xn (by with_unfolding_all rfl)).trans ?_) | fail)
  all_goals (conv=>lhs;whnf)
  all_goals rfl
 ·have e1:decide ((xs.map evA).length=0)=false:=decide_eq_false (by simpa using h0)
  have x1:=fun {x y:R}=>Xn (x:=x) (y:=y) e3
  refine go ?_
  clear x1
  try with_reducible rfl
  rfl
theorem U8 {n:Nat} {ps:List (List Op3)} (hx:ps.length≤1048576) (hxs:∀ l∈ps,l.length≤1048576):callP cfg (n+2) 141 [Yt ps]=some ⟨Yt ps,[]⟩:=by
 rw [Xa]
 refine go ?_
 refine (Xb (fun e k=>e.set 9 (.int .i64 (k:Int))) (fun h k=>h.set 2 (some ⟨false,false,false,1,(ps.take k).map Xp⟩)) (fun k=>some ⟨Yt ps,[]⟩) ps.length (by show _<18446744073709551616;omega) rfl ?_).trans rfl
 intro k f hk IH
 by_cases hlt:k<ps.length
 ·have e1:=Xf (f:=Xp) hlt
  have e2:=Xg k
  have r1:=Xe (f:=Xp) hlt
  have hw:=Xv (k:=k) (by omega)
  have hm0:=hxs _ (Xi hlt)
  have hm:(ps.getD k default).length*24≤140737488355328:=by omega
  have e3:decide ((((ps.take k).map Xp).length+1)*24≤Yf)=true:=decide_eq_true (by
   have:((ps.take k).map Xp).length=k:=by rw [List.length_map,List.length_take];omega
   rw [this];show _≤140737488355328;omega)
  have fq1:=fun {n:Nat}=>Xa0 (n:=n) hm
  have x1:=fun {x y:R}=>Xn (x:=x) (y:=y) e3
  refine go ?_
  clear fq1 x1
  try with_reducible rfl
  refine IH hlt _ _ (by rw [hw];rfl) (by rw [←Xb6 hlt];rfl)
 ·have e1:=Xh (f:=Xp) (Nat.le_of_not_lt hlt)
  obtain rfl:k=ps.length:=by omega
  rw [List.take_length]
  refine go ?_
  try with_reducible rfl
def Mac.room (m:Mac):Prop:=m.s.room∧m.progs.length≤1048576∧(∀ l∈m.progs,l.length≤1048576)∧m.next.length≤1048576∧m.evs.length≤1048576
theorem MI.mroom {m:Mac} (M:MI m):m.room:=by
 have h1:=M.pn;have h2:=M.nl;have h3:=M.el
 exact ⟨M.room,by omega,fun l hl=>by have:=Xnb (M.pr l hl);omega,by omega,by omega⟩
set_option maxHeartbeats 4000000 in
theorem Z1 {n:Nat} {m:Mac} (hm:m.room):callP cfg (n+4) 106 [.agg (macA m)]=some ⟨.agg (macA m),[]⟩:=by
 rw [Xa]
 obtain ⟨h1,h2,h3,h4,h5⟩:=hm
 have g1:m.next.length*8≤140737488355328:=by omega
 have g2:m.evs.length*64≤140737488355328:=by omega
 have fq1:=fun {n:Nat}=>Yz (n:=n) h1
 have fq2:=fun {n:Nat}=>U8 (n:=n) h2 h3
 have fq3:=fun {n:Nat}=>Zc (n:=n) g1
 have fq4:=fun {n:Nat}=>U7 (n:=n) g2
 refine goD ?_
 clear fq1 fq2 fq3 fq4
 try with_reducible rfl
theorem Xk3 {n:Nat} {m:Mac} {pk:Int} (h0:0≤pk∧pk≤9000) (h1:1≤m.progs.length∧m.progs.length≤4):callP cfg (n+1) 105 [.agg (macA m),.int .i64 pk]=some ⟨.int .i64 (pk % (m.progs.length:Int)),[]⟩:=by
 rw [Xa]
 have hl:((m.progs.map Xp).length:Int)=(m.progs.length:Int):=by rw [List.length_map]
 have n0:(((m.progs.map Xp).length:Int)==0)=false:=Xt (by omega)
 have n1:decide (((m.progs.map Xp).length:Int)=0)=false:=decide_eq_false (by omega)
 refine go ?_
 refine okI ?_
 rw [hl]
 obtain ⟨q,hq⟩:∃ q:Int,q=(m.progs.length:Int):=⟨_,rfl⟩
 rw [←hq]
 have hm1:pk.tmod q=pk % q:=Int.tmod_eq_emod_of_nonneg h0.1
 rw [hm1]
 have h4:q=1∨q=2∨q=3∨q=4:=by omega
 have h5:0≤pk % q∧pk % q≤3:=by rcases h4 with rfl | rfl | rfl | rfl <;> omega
 rw [Xc (by omega) (by omega),Int.tmod_eq_emod_of_nonneg (by omega)]
 rcases h4 with rfl | rfl | rfl | rfl <;> omega
set_option maxHeartbeats 4000000 in
theorem Xnd {n:Nat} {m:Mac} {p:Nat} (M:MI m) (hp:p<m.s.ths.length):callP cfg (n+1) 104 [.pv (macA m),.int .i64 (p:Int)]=some ⟨.bool (canV m p),[]⟩:=by
 rw [Xa]
 have hpn:=M.pn
 have hnl:=M.nl
 have d2:=Xg p
 have d1:=Xf (f:=thA) hp
 have r1:=Xe (f:=thA) hp
 have d3:decide ((p:Int)<((m.next.map iA).length:Int))=true:=Xf (by omega)
 have r2:(m.next.map iA)[p]?=some (iA (m.next.getD p default)):=Xe (by omega)
 have d4:decide ((p:Int)<((m.progs.map Xp).length:Int))=true:=Xf (by omega)
 have r3:(m.progs.map Xp)[p]?=some (Xp (m.progs.getD p default)):=Xe (by omega)
 unfold canV
 by_cases h1:m.time<1000000
 ·have b1:decide (m.time≥1000000)=false:=decide_eq_false (by omega)
  rw [decide_eq_true h1,Bool.true_and]
  by_cases h2:(m.s.th p).pc=0
  ·have b2:((m.s.th p).pc !=0)=false:=Yb h2
   rw [decide_eq_false (by simpa using h2),Bool.false_or]
   by_cases h3:m.next.getD p default<((m.progs.getD p default).length:Int)
   ·have b3:decide (m.next.getD p default<(((m.progs.getD p default).map opA).length:Int))=true:=decide_eq_true (by rw [List.length_map];exact h3)
    rw [decide_eq_true h3,Bool.true_and]
    by_cases h4:m.evs.length<80
    ·have b4:decide (((m.evs.map evA).length:Int)<80)=true:=decide_eq_true (by rw [List.length_map];omega)
     rw [decide_eq_true h4]
     refine goD ?_
     try with_reducible rfl
     all_goals first | rfl | exact okB b4
    ·have b4:decide (((m.evs.map evA).length:Int)<80)=false:=decide_eq_false (by rw [List.length_map];omega)
     rw [decide_eq_false h4]
     refine goD ?_
     try with_reducible rfl
     all_goals first | rfl | exact okB b4
   ·have b3:decide (m.next.getD p default<(((m.progs.getD p default).map opA).length:Int))=false:=decide_eq_false (by rw [List.length_map];exact h3)
    rw [decide_eq_false h3,Bool.false_and]
    refine goD ?_
    try with_reducible rfl
    all_goals rfl
  ·have b2:((m.s.th p).pc !=0)=true:=Zn h2
   rw [decide_eq_true (by simpa using h2),Bool.true_or]
   refine goD ?_
   try with_reducible rfl
   all_goals rfl
 ·have b1:decide (m.time≥1000000)=true:=decide_eq_true (by omega)
  rw [decide_eq_false h1,Bool.false_and]
  refine go ?_
  try with_reducible rfl
  all_goals rfl
theorem Xcv {n:Nat} {m:Mac} {e:Ev} (h1:m.next.length=m.progs.length) (h2:m.progs.length≤4):callP cfg (n+3) 121 [.agg (evA e),.pv (macA m)]=some ⟨.bool (!evB m e),[]⟩:=by
 rw [Xa]
 have hw1:IntKind.i64.wrap (((m.progs.map Xp).length:Int) - 1)=(m.next.length:Int) - 1:=by rw [List.length_map,Xc (by omega) (by omega)];omega
 by_cases a1:inB e.th 0 ((m.next.length:Int) - 1)=true
 ·have b1:inB e.th 0 (IntKind.i64.wrap (((m.progs.map Xp).length:Int) - 1))=true:=by rw [hw1];exact a1
  by_cases a2:Vx e.op=true
  ·by_cases a3:inB e.st 0 m.time=true
   ·by_cases a4:e.en=-1
    ·have b4:(e.en !=-1)=false:=Yb a4
     rw [show evB m e=true from by unfold evB;rw [a1,a2,a3,decide_eq_true a4];rfl]
     have fq1:=@X1
     have fq2:=@Ya
     refine go ?_
     clear fq1 fq2
     try with_reducible rfl
     all_goals first | rfl | exact congrArg (fun b=>some (⟨.bool (!b),[]⟩:Res)) a5
    ·have b4:(e.en !=-1)=true:=Zn a4
     by_cases a5:inB e.en e.st m.time=true
     ·
      rw [show evB m e=true from by unfold evB;rw [a1,a2,a3,a5];simp]
      have fq1:=@X1
      have fq2:=@Ya
      refine go ?_
      clear fq1 fq2
      try with_reducible rfl
      all_goals first | rfl | exact congrArg (fun b=>some (⟨.bool (!b),[]⟩:Res)) a5
     ·replace a5:inB e.en e.st m.time=false:=by simpa using a5
      rw [show evB m e=false from by unfold evB;rw [a1,a2,a3,a5,decide_eq_false a4];rfl]
      have fq1:=@X1
      have fq2:=@Ya
      refine go ?_
      clear fq1 fq2
      try with_reducible rfl
      all_goals first | rfl | exact congrArg (fun b=>some (⟨.bool (!b),[]⟩:Res)) a5
   ·replace a3:inB e.st 0 m.time=false:=by simpa using a3
    rw [show evB m e=false from by unfold evB;rw [a1,a2,a3];rfl]
    have fq1:=@X1
    have fq2:=@Ya
    refine go ?_
    clear fq1 fq2
    try with_reducible rfl
    all_goals first | rfl | exact congrArg (fun b=>some (⟨.bool (!b),[]⟩:Res)) a5
  ·replace a2:Vx e.op=false:=by simpa using a2
   rw [show evB m e=false from by unfold evB;rw [a1,a2];rfl]
   have fq1:=@X1
   have fq2:=@Ya
   refine go ?_
   clear fq1 fq2
   try with_reducible rfl
   all_goals first | rfl | exact congrArg (fun b=>some (⟨.bool (!b),[]⟩:Res)) a5
 ·replace a1:inB e.th 0 ((m.next.length:Int) - 1)=false:=by simpa using a1
  have b1:inB e.th 0 (IntKind.i64.wrap (((m.progs.map Xp).length:Int) - 1))=false:=by rw [hw1];exact a1
  rw [show evB m e=false from by unfold evB;rw [a1];rfl]
  have fq1:=@X1
  have fq2:=@Ya
  refine go ?_
  clear fq1 fq2
  try with_reducible rfl
  all_goals first | rfl | exact congrArg (fun b=>some (⟨.bool (!b),[]⟩:Res)) a5
theorem X5p {n:Nat} {m:Mac} {xs:List Ev} (hx:xs.length≤maxLen) (hxs:m.next.length=m.progs.length∧m.progs.length≤4):callP cfg (n+4) 186 [evsA xs,.fn 121 [.pv (macA m)]]=some ⟨.int .i64 (idxF (fun e=>!evB m e) 0 xs),[]⟩:=by
 unfold maxLen at hx
 rw [Xa]
 refine go ?_
 refine (Xb (fun e k=>e.set 8 (.int .i64 (k:Int))) (fun h _=>h) (fun k=>some ⟨.int .i64 (idxF (fun e=>!evB m e) k (xs.drop k)),[]⟩) xs.length (by show _<18446744073709551616;omega) rfl ?_).trans rfl
 intro k f hk IH
 by_cases hlt:k<xs.length
 ·have e1:=Xf (f:=evA) hlt
  have e2:=Xg k
  have r1:=Xe (f:=evA) hlt
  have hw:=Xv (k:=k) (by omega)
  rw [Xq hlt]
  by_cases hv:(fun e=>!evB m e) (xs.getD k default)=true
  ·have hi:idxF (fun e=>!evB m e) k (xs.getD k default::xs.drop (k+1))=(k:Int):=if_pos hv
   rw [hi]
   have fq1:=fun {n:Nat} {e:Ev}=>Xcv (n:=n) (e:=e) hxs.1 hxs.2
   refine go ?_
   clear fq1
   try with_reducible rfl
  ·have hv':(fun e=>!evB m e) (xs.getD k default)=false:=by simpa using hv
   have hi:idxF (fun e=>!evB m e) k (xs.getD k default::xs.drop (k+1))=idxF (fun e=>!evB m e) (k+1) (xs.drop (k+1)):=if_neg hv
   rw [hi]
   have fq1:=fun {n:Nat} {e:Ev}=>Xcv (n:=n) (e:=e) hxs.1 hxs.2
   refine go ?_
   clear fq1
   try with_reducible rfl
   exact IH hlt _ _ (by rw [hw];rfl) rfl
 ·have e1:=Xh (f:=evA) (Nat.le_of_not_lt hlt)
  rw [List.drop_eq_nil_of_le (by omega)]
  refine go ?_
  try with_reducible rfl
  rfl
theorem X6z {n:Nat} {m:Mac} {xs:List Ev} (hx:xs.length≤maxLen) (hxs:m.next.length=m.progs.length∧m.progs.length≤4):callP cfg (n+5) 120 [evsA xs,.fn 121 [.pv (macA m)]]=some ⟨.bool (xs.any (fun e=>!evB m e)),[]⟩:=by
 rw [Xa]
 have fq1:=fun {n:Nat}=>X5p (n:=n) hx hxs
 refine go ?_
 clear fq1
 try with_reducible rfl
 rw [←V5 _ _ 0]
set_option maxHeartbeats 4000000 in
theorem W9 {n:Nat} {m:Mac} (M:MI m):callP cfg (n+14) 56 [.agg (macA m)]=some ⟨.bool true,[]⟩:=by
 rw [Xa]
 obtain ⟨hr1,hr2,hr3,hr4,hr5⟩:=M.mroom
 have hr:=M.room
 have hi:=M.i64
 have hst:=M.sta
 have hpn:=M.pn
 have hnl:=M.nl
 have htm:=M.tm
 have hel:=M.el
 have hpb:Vv m.s.c m.progs=true:=by
  unfold Vv eqI
  rw [M.si.cv.cf,decide_eq_true M.pl,List.all_eq_true.2 M.pr];rfl
 have b1:(((m.next.map iA).length:Int) !=((m.progs.map Xp).length:Int))=false:=Yb (by rw [List.length_map,List.length_map];omega)
 have b2:inB m.time 0 1000000=true:=by unfold inB;simp;omega
 have b3:decide (((m.evs.map evA).length:Int)>80)=false:=decide_eq_false (by rw [List.length_map];omega)
 have hev:(m.evs.any fun e=>!evB m e)=false:=by
  rw [List.any_eq_false]
  intro e he
  rw [M.ev e he];simp
 have hx2:m.evs.length≤maxLen:=by unfold maxLen;omega
 have h12:m.next.length=m.progs.length∧m.progs.length≤4:=⟨hnl,hpn.1⟩
 have fq1:=fun {n:Nat}=>V7 (n:=n) hr hi
 have fq2:=@X1
 have fq3:=fun {n:Nat} {c:Cf}=>Vd (n:=n) (c:=c) hr2 hr3
 refine go ?_
 clear fq1 fq2 fq3
 refine (Xb (fun e k=>e.set 42 (.int .i64 (k:Int))) (fun h _=>h) (fun _=>some ⟨.bool true,[]⟩) m.next.length (by show _<18446744073709551616;omega) rfl ?_).trans rfl
 intro k f hk IH
 by_cases hlt:k<m.next.length
 ·have e1:=Xf (f:=iA) hlt
  have e2:=Xg k
  have r1:=Xe (f:=iA) hlt
  have e3:decide ((k:Int)<((m.progs.map Xp).length:Int))=true:=Xf (by omega)
  have r2:(m.progs.map Xp)[k]?=some (Xp (m.progs.getD k default)):=Xe (by omega)
  have hw:=Xv (k:=k) (by omega)
  have hn:=M.nx k hlt
  have b4:inB (m.next.getD k default) 0 (((m.progs.getD k default).map opA).length:Int)=true:=by rw [List.length_map];unfold inB;rw [decide_eq_true hn.1,decide_eq_true hn.2];rfl
  have fq1:=@X1
  refine go ?_
  clear fq1
  try with_reducible rfl
  exact IH hlt _ _ (by rw [hw];rfl) rfl
 ·have e1:=Xh (f:=iA) (Nat.le_of_not_lt hlt)
  have fq1:=fun {n:Nat}=>X6z (n:=n) hx2 h12
  refine go ?_
  clear fq1
  try with_reducible rfl
  exact okB (by rw [hev];rfl)
end Go.Proofs.YtbploohjimpcaaaGreat.A
