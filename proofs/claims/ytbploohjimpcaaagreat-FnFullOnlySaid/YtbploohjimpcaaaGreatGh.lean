/- What the program's functions answer (Gh): no condition. -/
import Derived.Test.YtbploohjimpcaaaGreatGa
set_option linter.unusedVariables false
set_option linter.unusedSimpArgs false
namespace Go.Proofs.YtbploohjimpcaaaGreat.A
open Go Go.Abs
set_option maxRecDepth 100000
theorem Yx {α:Type} {f:α→List AV} {xs:List α} (h:∀ x,Xlt (f x)=true):Y0 (xs.map f)=true:=by
 unfold Y0
 rw [List.all_map]
 exact List.all_eq_true.2 fun x _=>h x
theorem Xb6 {α:Type} [Inhabited α] {f:α→List AV} {xs:List α} {k:Nat} (h:k<xs.length):(xs.take k).map f++[f (xs.getD k default)]=(xs.take (k+1)).map f:=by
 have hv:xs.getD k default=xs[k]:=by simp [List.getD_eq_getElem?_getD,h]
 rw [List.take_succ_eq_append_getElem h,hv,List.map_append];rfl
theorem Zc {n:Nat} {xs:List Int} (hx:xs.length*8≤140737488355328):callP cfg (n+1) 153 [Xl xs]=some ⟨Xl xs,[]⟩:=by
 rw [Xa]
 have e2:Y0 (xs.map iA)=true:=Yx fun x=>rfl
 have e3:decide ((([]:List (List AV)).length+(xs.map iA).length)*8≤Yf)=true:=decide_eq_true (by simp only [List.length_nil,Nat.zero_add,List.length_map];exact hx)
 by_cases h0:xs=[]
 ·subst h0
  repeat' ((conv=>lhs;whnf);first | (with_reducible refine Vb.trans ?_) | (with_reducible refine V1.trans ?_) | (with_reducible refine Xcb.trans ?_) | (with_reducible refine V2.trans ?_) | (with_reducible refine Qx.trans ?_) | (with_reducible refine Up.trans ?_) | (with_reducible refine Qy.trans ?_) | (with_reducible refine Qz.trans ?_) | (with_reducible refine Xcc.trans ?_) | (with_reducible refine Qv.trans ?_) | (with_reducible refine Qw.trans ?_) | (with_reducible refine Wl.trans ?_) | (with_reducible refine Vc.trans ?_) | (with_reducible refine (Vn _ _).trans ?_) | (with_reducible refine (Wk _ _).trans ?_) | (with_reducible refine (Xn (by assumption)).trans ?_) | (with_reducible refine (Uk (by assumption)).trans ?_) | (with_reducible refine (Xo8 (by assumption)).trans ?_) | (with_reducible refine (Xo9 (by assumption)).trans ?_) | (with_reducible refine (Qb _ _ _).trans ?_) | (with_reducible refine (Qc _ _ _).trans ?_) | (refine Xld ?_ ?_) | (with_reducible refine (Xn (by with_unfolding_all rfl)).trans ?_) | fail)
  all_goals (conv=>lhs;whnf)
  all_goals rfl
 ·have e1:decide ((xs.map iA).length=0)=false:=decide_eq_false (by simpa using h0)
  have x1:=fun {x y:R}=>Xn (x:=x) (y:=y) e3
  refine go ?_
  clear x1
  try with_reducible rfl
  rfl
theorem Wu {n:Nat} {xs:List Ent} (hx:xs.length*32≤140737488355328):callP cfg (n+1) 303 [Yu xs]=some ⟨Yu xs,[]⟩:=by
 rw [Xa]
 have e2:Y0 (xs.map entA)=true:=Yx fun x=>rfl
 have e3:decide ((([]:List (List AV)).length+(xs.map entA).length)*32≤Yf)=true:=decide_eq_true (by simp only [List.length_nil,Nat.zero_add,List.length_map];exact hx)
 by_cases h0:xs=[]
 ·subst h0
  repeat' ((conv=>lhs;whnf);first | (with_reducible refine Vb.trans ?_) | (with_reducible refine V1.trans ?_) | (with_reducible refine Xcb.trans ?_) | (with_reducible refine V2.trans ?_) | (with_reducible refine Qx.trans ?_) | (with_reducible refine Up.trans ?_) | (with_reducible refine Qy.trans ?_) | (with_reducible refine Qz.trans ?_) | (with_reducible refine Xcc.trans ?_) | (with_reducible refine Qv.trans ?_) | (with_reducible refine Qw.trans ?_) | (with_reducible refine Wl.trans ?_) | (with_reducible refine Vc.trans ?_) | (with_reducible refine (Vn _ _).trans ?_) | (with_reducible refine (Wk _ _).trans ?_) | (with_reducible refine (Xn (by assumption)).trans ?_) | (with_reducible refine (Uk (by assumption)).trans ?_) | (with_reducible refine (Xo8 (by assumption)).trans ?_) | (with_reducible refine (Xo9 (by assumption)).trans ?_) | (with_reducible refine (Qb _ _ _).trans ?_) | (with_reducible refine (Qc _ _ _).trans ?_) | (refine Xld ?_ ?_) | (with_reducible refine (Xn (by with_unfolding_all rfl)).trans ?_) | fail)
  all_goals (conv=>lhs;whnf)
  all_goals rfl
 ·have e1:decide ((xs.map entA).length=0)=false:=decide_eq_false (by simpa using h0)
  have x1:=fun {x y:R}=>Xn (x:=x) (y:=y) e3
  refine go ?_
  clear x1
  try with_reducible rfl
  rfl
abbrev X0p (s:Sta) (l:List (List AV)):List AV:=[.int .i64 s.c.th,.int .i64 s.c.keys,.int .i64 s.c.cap,.int .i64 s.c.b,.int .i64 s.c.p,.int .i64 s.c.cm,Xl s.cells,Xl s.gens,.lst 19 l,.int .i64 s.steps,.int .i64 s.changes,.int .i64 s.retries,.int .i64 s.faults]
set_option maxHeartbeats 4000000 in
theorem Xir {n:Nat} {t:Th} (ht:t.room):callP cfg (n+2) 243 [.agg (thA t)]=some ⟨.agg (thA t),[]⟩:=by
 rw [Xa]
 obtain ⟨h1,h2,h3,h4,h5⟩:=ht
 have g1:t.found.length*8≤140737488355328:=by omega
 have g2:t.free.length*8≤140737488355328:=by omega
 have g3:t.buf.length*32≤140737488355328:=by omega
 have g4:t.work.length*32≤140737488355328:=by omega
 have g5:t.limbo.length*8≤140737488355328:=by omega
 have fq1:=fun {n:Nat}=>Zc (n:=n) g1
 have fq2:=fun {n:Nat}=>Zc (n:=n) g2
 have fq3:=fun {n:Nat}=>Zc (n:=n) g5
 have fq4:=fun {n:Nat}=>Wu (n:=n) g3
 have fq5:=fun {n:Nat}=>Wu (n:=n) g4
 refine goD ?_
 clear fq1 fq2 fq3 fq4 fq5
 try with_reducible rfl
theorem Xnx {n:Nat} {t:Th} (ht:t.room):callP cfg (n+1) 268 [.agg (thA t)]=some ⟨.agg (thA t),[]⟩:=by
 rw [Xa]
 obtain ⟨h1,h2,h3,h4,h5⟩:=ht
 have g1:t.found.length*8≤140737488355328:=by omega
 have g2:t.free.length*8≤140737488355328:=by omega
 have g3:t.buf.length*32≤140737488355328:=by omega
 have g4:t.work.length*32≤140737488355328:=by omega
 have g5:t.limbo.length*8≤140737488355328:=by omega
 have l0:Y0 (t.found.map iA)=true:=Yx fun x=>rfl
 have m0:decide ((([]:List (List AV)).length+(t.found.map iA).length)*8≤Yf)=true:=decide_eq_true (by simp only [List.length_nil,Nat.zero_add,List.length_map];exact g1)
 have l1:Y0 (t.free.map iA)=true:=Yx fun x=>rfl
 have m1:decide ((([]:List (List AV)).length+(t.free.map iA).length)*8≤Yf)=true:=decide_eq_true (by simp only [List.length_nil,Nat.zero_add,List.length_map];exact g2)
 have l2:Y0 (t.buf.map entA)=true:=Yx fun x=>rfl
 have m2:decide ((([]:List (List AV)).length+(t.buf.map entA).length)*32≤Yf)=true:=decide_eq_true (by simp only [List.length_nil,Nat.zero_add,List.length_map];exact g3)
 have l3:Y0 (t.work.map entA)=true:=Yx fun x=>rfl
 have m3:decide ((([]:List (List AV)).length+(t.work.map entA).length)*32≤Yf)=true:=decide_eq_true (by simp only [List.length_nil,Nat.zero_add,List.length_map];exact g4)
 have l4:Y0 (t.limbo.map iA)=true:=Yx fun x=>rfl
 have m4:decide ((([]:List (List AV)).length+(t.limbo.map iA).length)*8≤Yf)=true:=decide_eq_true (by simp only [List.length_nil,Nat.zero_add,List.length_map];exact g5)
 have x1:=fun {x y:R}=>Xn (x:=x) (y:=y) m0
 have x2:=fun {x y:R}=>Xn (x:=x) (y:=y) m1
 have x3:=fun {x y:R}=>Xn (x:=x) (y:=y) m2
 have x4:=fun {x y:R}=>Xn (x:=x) (y:=y) m3
 have x5:=fun {x y:R}=>Xn (x:=x) (y:=y) m4
 refine go ?_
 clear x1 x2 x3 x4 x5
 try with_reducible rfl
 rfl
set_option maxHeartbeats 4000000 in
theorem Yz {n:Nat} {s:Sta} (hs:s.room):callP cfg (n+3) 164 [.agg (staA s)]=some ⟨.agg (staA s),[]⟩:=by
 rw [Xa]
 obtain ⟨h1,h2,h3,h4⟩:=hs
 have g1:s.cells.length*8≤140737488355328:=by omega
 have g2:s.gens.length*8≤140737488355328:=by omega
 have fq1:=fun {n:Nat}=>Zc (n:=n) g1
 have fq2:=fun {n:Nat}=>Zc (n:=n) g2
 refine goD ?_
 clear fq1 fq2
 refine (Xb (fun e k=>e.set 19 (.int .i64 (k:Int))) (fun h k=>h.set 3 (some ⟨false,false,true,13,[X0p s ((s.ths.take k).map thA)]⟩)) (fun k=>some ⟨.agg (staA s),[]⟩) s.ths.length (by show _<18446744073709551616;omega) rfl ?_).trans rfl
 intro k f hk IH
 by_cases hlt:k<s.ths.length
 ·have e1:=Xf (f:=thA) hlt
  have e2:=Xg k
  have r1:=Xe (f:=thA) hlt
  have hw:=Xv (k:=k) (by omega)
  have hm:=h4 _ (Xi hlt)
  have e3:decide ((((s.ths.take k).map thA).length+1)*232≤Yf)=true:=decide_eq_true (by
   have:((s.ths.take k).map thA).length=k:=by rw [List.length_map,List.length_take];omega
   rw [this];show _≤140737488355328;omega)
  have fq1:=fun {n:Nat}=>Xir (n:=n) hm
  have x1:=fun {x y:R}=>Xn (x:=x) (y:=y) e3
  refine goD ?_
  clear fq1 x1
  try with_reducible rfl
  refine IH hlt _ _ (by rw [hw];rfl) (by rw [←Xb6 hlt];rfl)
 ·have e1:=Xh (f:=thA) (Nat.le_of_not_lt hlt)
  obtain rfl:k=s.ths.length:=by omega
  rw [List.take_length]
  refine go ?_
  try with_reducible rfl
set_option maxHeartbeats 4000000 in
theorem W5 {n:Nat} {s:Sta} (hs:s.room):callP cfg (n+2) 178 [.agg (staA s)]=some ⟨.agg (staA s),[]⟩:=by
 rw [Xa]
 obtain ⟨h1,h2,h3,h4⟩:=hs
 have g1:s.cells.length*8≤140737488355328:=by omega
 have g2:s.gens.length*8≤140737488355328:=by omega
 have l0:Y0 (s.cells.map iA)=true:=Yx fun x=>rfl
 have m0:decide ((([]:List (List AV)).length+(s.cells.map iA).length)*8≤Yf)=true:=decide_eq_true (by simp only [List.length_nil,Nat.zero_add,List.length_map];exact g1)
 have l1:Y0 (s.gens.map iA)=true:=Yx fun x=>rfl
 have m1:decide ((([]:List (List AV)).length+(s.gens.map iA).length)*8≤Yf)=true:=decide_eq_true (by simp only [List.length_nil,Nat.zero_add,List.length_map];exact g2)
 have x1:=fun {x y:R}=>Xn (x:=x) (y:=y) m0
 have x2:=fun {x y:R}=>Xn (x:=x) (y:=y) m1
 refine go ?_
 clear x1 x2
 refine (Xb (fun e k=>e.set 4 (.int .i64 (k:Int))) (fun h k=>h.set 3 (some ⟨false,false,true,13,[X0p s ((s.ths.take k).map thA)]⟩)) (fun k=>some ⟨.agg (staA s),[]⟩) s.ths.length (by show _<18446744073709551616;omega) rfl ?_).trans rfl
 intro k f hk IH
 by_cases hlt:k<s.ths.length
 ·have e1:=Xf (f:=thA) hlt
  have e2:=Xg k
  have r1:=Xe (f:=thA) hlt
  have hw:=Xv (k:=k) (by omega)
  have hm:=h4 _ (Xi hlt)
  have e3:decide ((((s.ths.take k).map thA).length+1)*232≤Yf)=true:=decide_eq_true (by
   have:((s.ths.take k).map thA).length=k:=by rw [List.length_map,List.length_take];omega
   rw [this];show _≤140737488355328;omega)
  have fq1:=fun {n:Nat}=>Xnx (n:=n) hm
  have x1:=fun {x y:R}=>Xn (x:=x) (y:=y) e3
  refine go ?_
  clear fq1 x1
  try with_reducible rfl
  refine IH hlt _ _ (by rw [hw];rfl) (by rw [←Xb6 hlt];rfl)
 ·have e1:=Xh (f:=thA) (Nat.le_of_not_lt hlt)
  obtain rfl:k=s.ths.length:=by omega
  rw [List.take_length]
  refine go ?_
  try with_reducible rfl
end Go.Proofs.YtbploohjimpcaaaGreat.A
