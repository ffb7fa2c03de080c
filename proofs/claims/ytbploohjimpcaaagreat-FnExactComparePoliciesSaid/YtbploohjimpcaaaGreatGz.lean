/- What the program's functions answer (Gz): no condition. -/
import Derived.Test.YtbploohjimpcaaaGreatGv
import Derived.Test.YtbploohjimpcaaaGreatGu
set_option linter.unusedVariables false
set_option linter.unusedSimpArgs false
namespace Go.Proofs.YtbploohjimpcaaaGreat.A
open Go Go.Abs
set_option maxRecDepth 100000
def wp (x:Scr) (k:Int):Scr:=⟨{x.c with p:=k},x.ps,x.picks⟩
theorem X3o {x:Scr} {k:Int} (hs:scrB x=true) (hk:0≤k∧k≤2):scrB (wp x k)=true:=by
 unfold scrB Vv Yp inB at *
 unfold wp
 simp only [Bool.and_eq_true,decide_eq_true_eq] at *
 obtain ⟨⟨⟨⟨⟨⟨⟨h1,h2⟩,h3⟩,h4⟩,h5⟩,h6⟩,h7⟩,h8⟩:=hs
 exact ⟨⟨⟨⟨⟨⟨⟨h1,h2⟩,h3⟩,h4⟩,hk⟩,h6⟩,h7⟩,h8⟩
structure Sm where
 p:Int
 st:Int
 rt:Int
 hi:Int
 al:Int
 rf:Int
abbrev smA (m:Sm):List AV:=[.int .i64 m.p,.int .i64 m.st,.int .i64 m.rt,.int .i64 m.hi,.int .i64 m.al,.int .i64 m.rf]
noncomputable def smV (x:Scr) (k:Nat):Sm:=⟨(k:Int),(sumR (wp x (k:Int)) x.picks.length).1.s.steps,(sumR (wp x (k:Int)) x.picks.length).1.s.retries,(sumR (wp x (k:Int)) x.picks.length).2,alV (sumR (wp x (k:Int)) x.picks.length).1.s,refC (sumR (wp x (k:Int)) x.picks.length).1.evs⟩
theorem Xwj {x:Scr} {k:Nat}:sumA (wp x (k:Int))=smA (smV x k):=rfl
noncomputable def smL (x:Scr) (k:Nat):List (List AV):=(List.range k).map fun j=>smA (smV x j)
theorem Xs3 {x:Scr} {k:Nat}:smL x (k+1)=smL x k++[smA (smV x k)]:=by unfold smL;rw [List.range_succ,List.map_append];rfl
theorem Xb1 {x:Scr} {k:Nat}:(smL x k).length=k:=by unfold smL;simp
theorem Xi2 {x:Scr} {k j:Nat} (h:j<k):(smL x k)[j]?=some (smA (smV x j)):=by unfold smL;simp [h]
set_option maxHeartbeats 4000000 in
theorem Xi3 {n:Nat} {x:Scr} {k:Int} (hx:x.room):callP cfg (n+3) 91 [.agg (scrA x),.int .i64 k]=some ⟨.agg (scrA (wp x k)),[]⟩:=by
 rw [Xa]
 obtain ⟨h1,h2,h3⟩:=hx
 have g1:x.picks.length*8≤140737488355328:=by omega
 have fq1:=fun {n:Nat}=>U8 (n:=n) h1 h2
 have fq2:=fun {n:Nat}=>Zc (n:=n) g1
 refine goD ?_
 clear fq1 fq2
 try with_reducible rfl
 all_goals rfl
set_option maxHeartbeats 4000000 in
theorem Xi4 {n:Nat} {x:Scr} {kk:Int} (hx:x.room):callP cfg (n+1) 90 [.agg (scrA x),.int .i64 kk]=some ⟨.agg (scrA (wp x kk)),[]⟩:=by
 rw [Xa]
 obtain ⟨h1,h2,h3⟩:=hx
 have z40:ty40.zero=[.int .i64 0,.int .i64 0,.int .i64 0,.int .i64 0,.int .i64 0,.int .i64 0,.lst 1 [],.lst 1 []]:=rfl
 have l0:Y0 (x.picks.map iA)=true:=Yx fun x=>rfl
 have m0:decide ((([]:List (List AV)).length+(x.picks.map iA).length)*8≤Yf)=true:=decide_eq_true (by simp only [List.length_nil,Nat.zero_add,List.length_map];show _≤140737488355328;omega)
 have x1:=fun {x y:R}=>Xn (x:=x) (y:=y) m0
 refine goD ?_
 repeat (refine (Xly _ _).trans ?_;refine goD ?_)
 clear x1
 refine (Xb (fun e k=>e.set 6 (.int .i64 (k:Int))) (fun h k=>h.set 10 (some ⟨false,false,true,ty40.size,[[.int .i64 x.c.th,.int .i64 x.c.keys,.int .i64 x.c.cap,.int .i64 x.c.b,.int .i64 kk,.int .i64 x.c.cm,.lst 1 ((x.ps.take k).map Xp),Xl x.picks]]⟩)) (fun _=>some ⟨.agg (scrA (wp x kk)),[]⟩) x.ps.length (by show _<18446744073709551616;omega) rfl ?_).trans rfl
 intro k f hk IH
 by_cases hlt:k<x.ps.length
 ·have e1:=Xf (f:=Xp) hlt
  have e2:=Xg k
  have r1:=Xe (f:=Xp) hlt
  have hw:=Xv (k:=k) (by omega)
  have hm:=h2 _ (Xi hlt)
  have l1:Y0 ((x.ps.getD k default).map opA)=true:=Yx fun x=>rfl
  have m1:decide ((([]:List (List AV)).length+((x.ps.getD k default).map opA).length)*24≤Yf)=true:=decide_eq_true (by simp only [List.length_nil,Nat.zero_add,List.length_map];show _≤140737488355328;omega)
  have e3:decide ((((x.ps.take k).map Xp).length+1)*24≤Yf)=true:=decide_eq_true (by
   have:((x.ps.take k).map Xp).length=k:=by rw [List.length_map,List.length_take];omega
   rw [this];show _≤140737488355328;omega)
  have x1:=fun {x y:R}=>Xn (x:=x) (y:=y) m1
  have x2:=fun {x y:R}=>Xn (x:=x) (y:=y) e3
  refine goD ?_
  clear x1 x2
  try with_reducible rfl
  exact IH hlt _ _ (by rw [hw];rfl) (by rw [←Xb6 hlt];rfl)
 ·have e1:=Xh (f:=Xp) (Nat.le_of_not_lt hlt)
  obtain rfl:k=x.ps.length:=by omega
  rw [List.take_length]
  refine go ?_
  try with_reducible rfl
  all_goals rfl
set_option maxHeartbeats 4000000 in
theorem Xag {n:Nat} {x:Scr} (hx:x.room):callP cfg (n+62) 30 [.agg (scrA x)]=some ⟨.lst 6 (if scrB x=true then smL x 3 else []),[]⟩:=by
 rw [Xa]
 by_cases hs:scrB x=true
 ·rw [if_pos hs]
  have hI:=fun {n:Nat}=>Vk (n:=n) hx
  rw [hs] at hI
  have fq12:=@hI
  refine go ?_
  refine (Xb (fun e k=>e.set 4 (.int .i64 (k:Int))) (fun h k=>h.set 3 (some ⟨false,false,false,ty48.size,smL x k⟩)) (fun _=>some ⟨.lst 6 (smL x 3),[]⟩) 3 (by decide) rfl ?_).trans rfl
  intro k f hk IH
  have fq12:=@hI
  by_cases hlt:k<3
  ·have hw:=Xv (k:=k) (by omega)
   have b1:decide ((k:Int)≤2)=true:=decide_eq_true (by omega)
   have hok:=X3o (k:=(k:Int)) hs ⟨by omega,by omega⟩
   have hS:=fun {n:Nat}=>Xa2 (n:=n) (x:=wp x (k:Int)) hx
   rw [if_pos hok,hok,Xwj] at hS
   have fq11:=@hS
   have e3:decide (((smL x k).length+1)*48≤Yf)=true:=decide_eq_true (by rw [Xb1];show _≤140737488355328;omega)
   have fq1:=fun {n:Nat} {k:Int}=>Xi3 (n:=n) (k:=k) hx
   have x1:=fun {x y:R}=>Xn (x:=x) (y:=y) e3
   refine go ?_
   clear fq1 x1
   try with_reducible rfl
   exact IH hlt _ _ (by rw [hw];rfl) (by rw [Xs3];rfl)
  ·have b1:decide ((k:Int)≤2)=false:=decide_eq_false (by omega)
   obtain rfl:k=3:=by omega
   refine go ?_
   try with_reducible rfl
   all_goals rfl
 ·replace hs:scrB x=false:=by simpa using hs
  rw [if_neg (by rw [hs];simp)]
  have hI:=fun {n:Nat}=>Vk (n:=n) hx
  rw [hs] at hI
  have fq12:=@hI
  refine go ?_
  try with_reducible rfl
  all_goals rfl
set_option maxHeartbeats 4000000 in
theorem Xah {n:Nat} {x:Scr} (hx:x.room):callP cfg (n+69) 29 [.agg (scrA x)]=some ⟨.lst 6 (if scrB x=true then smL x 3 else []),[]⟩:=by
 rw [Xa]
 by_cases hs:scrB x=true
 ·rw [if_pos hs]
  have hI:=fun {n:Nat}=>Ws (n:=n) hx
  rw [hs] at hI
  have fq12:=@hI
  refine go ?_
  refine (Xb (fun e k=>e.set 4 (.int .i64 (k:Int))) (fun h k=>h.set 3 (some ⟨false,false,false,ty48.size,smL x k⟩)) (fun _=>some ⟨.lst 6 (smL x 3),[]⟩) 3 (by decide) rfl ?_).trans rfl
  intro k f hk IH
  have fq12:=@hI
  by_cases hlt:k<3
  ·have hw:=Xv (k:=k) (by omega)
   have b1:decide ((k:Int)≤2)=true:=decide_eq_true (by omega)
   have hok:=X3o (k:=(k:Int)) hs ⟨by omega,by omega⟩
   have hS:=fun {n:Nat}=>Xa3 (n:=n) (x:=wp x (k:Int)) hx
   rw [if_pos hok,hok,Xwj] at hS
   have fq11:=@hS
   have e3:decide (((smL x k).length+1)*48≤Yf)=true:=decide_eq_true (by rw [Xb1];show _≤140737488355328;omega)
   have fq1:=fun {n:Nat} {kk:Int}=>Xi4 (n:=n) (kk:=kk) hx
   have x1:=fun {x y:R}=>Xn (x:=x) (y:=y) e3
   refine go ?_
   clear fq1 x1
   try with_reducible rfl
   exact IH hlt _ _ (by rw [hw];rfl) (by rw [Xs3];rfl)
  ·have b1:decide ((k:Int)≤2)=false:=decide_eq_false (by omega)
   obtain rfl:k=3:=by omega
   refine go ?_
   try with_reducible rfl
   all_goals rfl
 ·replace hs:scrB x=false:=by simpa using hs
  rw [if_neg (by rw [hs];simp)]
  have hI:=fun {n:Nat}=>Ws (n:=n) hx
  rw [hs] at hI
  have fq12:=@hI
  refine go ?_
  refine (Xb (fun e k=>e.set 4 (.int .i64 (k:Int))) (fun h _=>h) (fun _=>some ⟨.lst 6 [],[]⟩) 0 (by decide) rfl ?_).trans rfl
  intro k f hk IH
  obtain rfl:k=0:=by omega
  have fq12:=@hI
  refine go ?_
  try with_reducible rfl
  all_goals rfl
def smr (m:Sm):List AV:=smA m
noncomputable def cpL (x:Scr):List Sm:=if scrB x=true then (List.range 3).map (smV x) else []
theorem X29 {x:Scr}:(cpL x).length≤3:=by
 unfold cpL;split
 ·rw [List.length_map,List.length_range];exact Nat.le_refl _
 ·exact Nat.zero_le _
theorem X5v {x:Scr}:(if scrB x=true then smL x 3 else [])=(cpL x).map smr:=by
 unfold cpL smL;split
 ·rw [List.map_map];rfl
 ·rfl
def mkS (n:Nat):List Sm:=(List.range n).map fun (i:Nat)=>⟨1+6*(i:Int),2+6*(i:Int),3+6*(i:Int),4+6*(i:Int),5+6*(i:Int),6+6*(i:Int)⟩
instance:Inhabited Sm:=⟨⟨0,0,0,0,0,0⟩⟩
theorem Xqy {n:Nat}:(mkS n).length=n:=by simp [mkS]
theorem Xwk {n j:Nat} (h:j<n):(mkS n)[j]?=some ⟨1+6*(j:Int),2+6*(j:Int),3+6*(j:Int),4+6*(j:Int),5+6*(j:Int),6+6*(j:Int)⟩:=by simp [mkS,h]
theorem X3a {n j:Nat} (h:j<n):((mkS n).map smr)[j]?=some [.int .i64 (1+6*(j:Int)),.int .i64 (2+6*(j:Int)),.int .i64 (3+6*(j:Int)),.int .i64 (4+6*(j:Int)),.int .i64 (5+6*(j:Int)),.int .i64 (6+6*(j:Int))]:=by rw [List.getElem?_map,Xwk h];rfl
set_option maxHeartbeats 4000000 in
theorem Xai {n:Nat} {l:List Sm} (hl:l.length≤3):callP cfg (n+2) 31 [.lst 6 (l.map smr),.lst 6 (l.map smr)]=some ⟨.bool true,[]⟩:=by
 rw [Xa]
 have b0:(((l.map smr).length:Int) !=((l.map smr).length:Int))=false:=Yb rfl
 refine go ?_
 refine (Xb (fun e k=>e.set 5 (.int .i64 (k:Int))) (fun h _=>h) (fun _=>some ⟨.bool true,[]⟩) l.length (by show _<18446744073709551616;omega) rfl ?_).trans rfl
 intro k f hk IH
 by_cases hlt:k<l.length
 ·have d1:=Xf (f:=smr) hlt
  have d2:=Xg k
  have r1:=Xe (f:=smr) hlt
  have hw:=Xv (k:=k) (by omega)
  have fq1:=@Xa1
  refine goD ?_
  clear fq1
  try with_reducible rfl
  exact IH hlt _ _ (by rw [hw];rfl) rfl
 ·have d1:=Xh (f:=smr) (Nat.le_of_not_lt hlt)
  refine go ?_
  try with_reducible rfl
  all_goals rfl
set_option maxHeartbeats 4000000 in
theorem Xgn {n:Nat} {L:Nat} (hL:L≤3):callP cfg (n+1) 33 [.lst 6 ((mkS L).map smr),.int .i64 1]=some ⟨.int .i64 (1+6*(L:Int)),[]⟩:=by
 rw [Xa]
 refine go ?_
 refine (Xb (fun e j=>(e.set 5 (.int .i64 (j:Int))).set 1 (.int .i64 (1+6*(j:Int)))) (fun h _=>h) (fun _=>some ⟨.int .i64 (1+6*(L:Int)),[]⟩) L (by show _<18446744073709551616;omega) rfl ?_).trans rfl
 intro j f hj IH
 by_cases hlj:j<L
 ·have d1:decide ((j:Int)<(((mkS L).map smr).length:Int))=true:=Xf (f:=smr) (by rw [Xqy];exact hlj)
  have d2:=Xg j
  have r1:=X3a hlj
  have hw:=Xv (k:=j) (by omega)
  have v1:IntKind.i64.wrap (1+6*(j:Int)+1)=2+6*(j:Int):=by rw [Xc (by omega) (by omega)];omega
  have v2:IntKind.i64.wrap (2+6*(j:Int)+1)=3+6*(j:Int):=by rw [Xc (by omega) (by omega)];omega
  have v3:IntKind.i64.wrap (3+6*(j:Int)+1)=4+6*(j:Int):=by rw [Xc (by omega) (by omega)];omega
  have v4:IntKind.i64.wrap (4+6*(j:Int)+1)=5+6*(j:Int):=by rw [Xc (by omega) (by omega)];omega
  have v5:IntKind.i64.wrap (5+6*(j:Int)+1)=6+6*(j:Int):=by rw [Xc (by omega) (by omega)];omega
  have v6:IntKind.i64.wrap (6+6*(j:Int)+1)=1+6*((j+1:Nat):Int):=by rw [Xc (by omega) (by omega)];omega
  have b1:((1+6*(j:Int)) !=(1+6*(j:Int)))=false:=Yb rfl
  have b2:((2+6*(j:Int)) !=(IntKind.i64.wrap (1+6*(j:Int)+1)))=false:=Yb (by rw [v1])
  have b3:((3+6*(j:Int)) !=(IntKind.i64.wrap (IntKind.i64.wrap (1+6*(j:Int)+1)+1)))=false:=Yb (by rw [v1,v2])
  have b4:((4+6*(j:Int)) !=(IntKind.i64.wrap (IntKind.i64.wrap (IntKind.i64.wrap (1+6*(j:Int)+1)+1)+1)))=false:=Yb (by rw [v1,v2,v3])
  have b5:((5+6*(j:Int)) !=(IntKind.i64.wrap (IntKind.i64.wrap (IntKind.i64.wrap (IntKind.i64.wrap (1+6*(j:Int)+1)+1)+1)+1)))=false:=Yb (by rw [v1,v2,v3,v4])
  have b6:((6+6*(j:Int)) !=(IntKind.i64.wrap (IntKind.i64.wrap (IntKind.i64.wrap (IntKind.i64.wrap (IntKind.i64.wrap (1+6*(j:Int)+1)+1)+1)+1)+1)))=false:=Yb (by rw [v1,v2,v3,v4,v5])
  refine go ?_
  try with_reducible rfl
  exact IH hlj _ _ (by rw [hw,v1,v2,v3,v4,v5,v6];rfl) rfl
 ·have hj2:j=L:=by omega
  have d1:decide ((j:Int)<(((mkS L).map smr).length:Int))=false:=Xh (f:=smr) (by rw [Xqy];omega)
  refine go ?_
  try with_reducible rfl
  rw [hj2]
set_option maxHeartbeats 16000000 in
theorem F_laws_FnExactComparePolicies {n:Nat} {x:Scr} (hx:x.len):callP cfg (n+70) 6 [.agg (scrA x)]=some ⟨.bool true,[]⟩:=by
 rw [Xa]
 have z0:(0:Int)≤1048576:=by decide
 have z1:(1048576:Int)≤1048576:=by decide
 by_cases hz:szSc x 1048576<0
 ·have d:decide (szSc x 1048576<0)=true:=decide_eq_true hz
  have fq1:=fun {n:Nat}=>Zf (n:=n) hx z0 z1
  refine go ?_
  clear fq1
  try with_reducible rfl
  all_goals rfl
 ·have d:decide (szSc x 1048576<0)=false:=decide_eq_false hz
  have hr:=Xd3 hz
  have hcl:=X29 (x:=x)
  have hI:=fun {n:Nat}=>Xag (n:=n) hr
  have hS:=fun {n:Nat}=>Xah (n:=n) hr
  rw [X5v] at hI hS
  have fq11:=@hI
  have fq12:=@hS
  have hxx:(!decide (x=x))=false:=by simp
  have fq1:=fun {n:Nat}=>Zf (n:=n) hx z0 z1
  have fq2:=fun {n:Nat}=>Z0 (n:=n) hr
  have fq3:=fun {n:Nat} {b:Scr}=>Vl (n:=n) (b:=b) hx
  have fq4:=fun {n:Nat}=>Xai (n:=n) hcl
  refine goD ?_
  clear fq1 fq2 fq3 fq4
  have hrC:=hr
  obtain ⟨hr1,hr2,hr3⟩:=hrC
  clear fq11 fq12
  refine (X9 (fun e (x:Nat×Int×List (List Op3))=>(e.set 5 (.int .i64 (x.1:Int))).set 1 (.int .i64 x.2.1)) (fun h y=>h.set 5 (some ⟨false,false,true,ty40.size,[rowS x y.2.2 x.picks]⟩)) (fun _=>some ⟨.bool true,[]⟩) (fun y=>(∀ p∈y.2.2,p.length≤1048576)∧y.2.2.length=x.ps.length∧y.1≤x.ps.length∧0≤y.2.1∧y.2.1≤1+3145728*(y.1:Int)) (fun y=>x.ps.length - y.1) (0,1,x.ps) rfl ⟨hr2,rfl,Nat.zero_le _,by show (0:Int)≤1;decide,by show (1:Int)≤1+3145728*((0:Nat):Int);decide⟩ (by show _ - _<18446744073709551616;omega) ?_).trans rfl
  rintro ⟨i,k,ps⟩ fI ⟨hW,hn,hj,hk0,hk1⟩ IHI
  simp only at hW hn hj hk0 hk1
  by_cases hli:i<x.ps.length
  ·have hi':i<ps.length:=by omega
   have d1:=Xf (f:=Xp) hi'
   have d2:=Xg i
   have r1:=Xe (f:=Xp) hi'
   have hwi:=Xv (k:=i) (by omega)
   refine go ?_
   refine (X9 (fun e (x:Nat×Int×List (List Op3))=>(e.set 5 (.int .i64 (x.1:Int))).set 1 (.int .i64 x.2.1)) (fun h y=>h.set 5 (some ⟨false,false,true,ty40.size,[rowS x y.2.2 x.picks]⟩)) (fun _=>some ⟨.bool true,[]⟩) (fun y=>(∀ p∈y.2.2,p.length≤1048576)∧y.2.2.length=x.ps.length∧y.1≤(y.2.2.getD i default).length∧0≤y.2.1∧y.2.1≤1+3145728*(i:Int)+3*(y.1:Int)) (fun y=>(y.2.2.getD i default).length - y.1) (0,k,ps) rfl ⟨hW,hn,Nat.zero_le _,hk0,by show k≤_+3*((0:Nat):Int);omega⟩ (by have:=hW _ (Xi hi');show (ps.getD i default).length - 0<18446744073709551616;omega) ?_).trans rfl
   clear hk1
   rintro ⟨j,k,ps⟩ fJ ⟨hW,hn,hj,hk0,hk1⟩ IHJ
   simp only at hW hn hj hk0 hk1
   have hi':i<ps.length:=by omega
   have hlm:=hW _ (Xi hi')
   have r1:=Xe (f:=Xp) hi'
   by_cases hlj:j<(ps.getD i default).length
   ·have d1:=Xf (f:=opA) hlj
    have d2:=Xg j
    have r2:=Xe (f:=opA) hlj
    have hwj:=Xv (k:=j) (by omega)
    have w1:IntKind.i64.wrap (k+1)=k+1:=by rw [Xc (by omega) (by omega)];first | done | omega
    have w2:IntKind.i64.wrap (k+1+1)=k+2:=by rw [Xc (by omega) (by omega)];first | done | omega
    have w3:IntKind.i64.wrap (k+2+1)=k+3:=by rw [Xc (by omega) (by omega)];first | done | omega
    have hL:j<((ps.getD i default).map opA).length:=by rw [List.length_map];exact hlj
    have hM:i<(ps.map Xp).length:=by rw [List.length_map];exact hi'
    have d3:∀ row,decide ((j:Int)<((((ps.getD i default).map opA).set j row).length:Int))=true:=fun row=>by rw [List.length_set];exact d1
    have x1:=fun {row:List AV} {x y:R}=>Xn (x:=x) (y:=y) (d3 row)
    have st1:=r1
    have st2:=r2
    refine go ?_
    clear st1 st2
    try with_reducible rfl
    refine IHJ (j+1,IntKind.i64.wrap (IntKind.i64.wrap (IntKind.i64.wrap (k+1)+1)+1),ps.set i ((ps.getD i default).set j ⟨k,IntKind.i64.wrap (k+1),IntKind.i64.wrap (IntKind.i64.wrap (k+1)+1)⟩)) _ _ ⟨X0x hW (by rw [List.length_set];exact hlm),by show (ps.set i _).length=_;rw [List.length_set];exact hn,by show j+1≤((ps.set i ((ps.getD i default).set j ⟨k,IntKind.i64.wrap (k+1),IntKind.i64.wrap (IntKind.i64.wrap (k+1)+1)⟩)).getD i default).length;rw [Xb7 hi',List.length_set];exact hlj,by show 0≤IntKind.i64.wrap (IntKind.i64.wrap (IntKind.i64.wrap (k+1)+1)+1);rw [w1,w2,w3];omega,by show IntKind.i64.wrap (IntKind.i64.wrap (IntKind.i64.wrap (k+1)+1)+1)≤_+3*((j+1:Nat):Int);rw [w1,w2,w3];omega⟩ (by show ((ps.set i ((ps.getD i default).set j ⟨k,IntKind.i64.wrap (k+1),IntKind.i64.wrap (IntKind.i64.wrap (k+1)+1)⟩)).getD i default).length - (j+1)<(ps.getD i default).length - j;rw [Xb7 hi',List.length_set];omega) (by rw [hwj];rfl) (by dsimp only;unfold rowS;rw [Xuq,Xkg];first | done | rfl)
   ·have d1:=Xh (f:=opA) (Nat.le_of_not_lt hlj)
    have dI:=Xf (f:=Xp) hi'
    have dZ:=Xg i
    refine go ?_
    refine IHI (i+1,k,ps) _ _ ⟨hW,hn,by show i+1≤x.ps.length;omega,hk0,by show k≤1+3145728*((i+1:Nat):Int);omega⟩ (by show x.ps.length - (i+1)<x.ps.length - i;omega) (by rw [hwi];rfl) rfl
  ·have d1:=Xh (xs:=ps) (k:=i) (f:=Xp) (by omega)
   have hi1:(i:Int)≤1048576:=by omega
   replace hk1:k≤4398046511104:=by omega
   refine go ?_
   refine (X9 (fun e (x:Nat×Int×List Int)=>(e.set 5 (.int .i64 (x.1:Int))).set 1 (.int .i64 x.2.1)) (fun h y=>h.set 5 (some ⟨false,false,true,ty40.size,[rowS x ps y.2.2]⟩)) (fun _=>some ⟨.bool true,[]⟩) (fun y=>y.1≤y.2.2.length∧y.2.2.length≤1048576∧0≤y.2.1∧y.2.1≤4398046511104+(y.1:Int)) (fun y=>y.2.2.length - y.1) (0,k,x.picks) rfl ⟨Nat.zero_le _,hr3,hk0,by show k≤_+((0:Nat):Int);omega⟩ (by show x.picks.length - 0<18446744073709551616;omega) ?_).trans rfl
   clear hk1
   rintro ⟨j,k,pk⟩ fK ⟨hj,hp3,hk0,hk1⟩ IHK
   simp only at hj hp3 hk0 hk1
   by_cases hlj:j<pk.length
   ·have d1:=Xf (f:=iA) hlj
    have d2:=Xg j
    have r2:=Xe (f:=iA) hlj
    have hwj:=Xv (k:=j) (by omega)
    have w1:IntKind.i64.wrap (k+1)=k+1:=by rw [Xc (by omega) (by omega)];first | done | omega
    have st1:=r2
    refine go ?_
    clear st1
    refine IHK (j+1,IntKind.i64.wrap (k+1),pk.set j k) _ _ ⟨by show j+1≤(pk.set j k).length;rw [List.length_set];exact hlj,by show (pk.set j k).length≤_;rw [List.length_set];exact hp3,by show 0≤IntKind.i64.wrap (k+1);rw [w1];omega,by show IntKind.i64.wrap (k+1)≤_+((j+1:Nat):Int);rw [w1];omega⟩ (by show (pk.set j k).length - (j+1)<pk.length - j;rw [List.length_set];omega) (by rw [hwj];rfl) (by dsimp only;unfold rowS;rw [List.map_set];first | done | rfl)
   ·have d1:=Xh (f:=iA) (Nat.le_of_not_lt hlj)
    have hk2:decide (k<0)=false:=decide_eq_false (by omega)
    have fq1:=fun {n:Nat}=>Xai (n:=n) hcl
    refine go ?_
    clear fq1
    refine (Xb (fun e j=>(e.set 5 (.int .i64 (j:Int))).set 1 (.int .i64 (1+6*(j:Int)))) (fun h j=>h.set 6 (some ⟨false,true,true,0,[[.lst 6 ((mix (mkS (cpL x).length) (cpL x) j).map smr)]]⟩)) (fun _=>some ⟨.bool true,[]⟩) (cpL x).length (by show _<18446744073709551616;omega) (by rw [Zd];first | done | rfl) ?_).trans rfl
    have hmk:(mkS (cpL x).length).length=(cpL x).length:=Xqy
    intro j fS hjS IHS
    by_cases hlj:j<(cpL x).length
    ·have d0:j<(mix (mkS (cpL x).length) (cpL x) j).length:=by rw [Yg hmk (by omega)];exact hlj
     have d1:=Xf (f:=smr) d0
     have d2:=Xg j
     have r2:=Zv (f:=smr) hmk hlj
     have hwj:=Xv (k:=j) (by omega)
     have v1:IntKind.i64.wrap (1+6*(j:Int)+1)=2+6*(j:Int):=by rw [Xc (by omega) (by omega)];omega
     have v2:IntKind.i64.wrap (2+6*(j:Int)+1)=3+6*(j:Int):=by rw [Xc (by omega) (by omega)];omega
     have v3:IntKind.i64.wrap (3+6*(j:Int)+1)=4+6*(j:Int):=by rw [Xc (by omega) (by omega)];omega
     have v4:IntKind.i64.wrap (4+6*(j:Int)+1)=5+6*(j:Int):=by rw [Xc (by omega) (by omega)];omega
     have v5:IntKind.i64.wrap (5+6*(j:Int)+1)=6+6*(j:Int):=by rw [Xc (by omega) (by omega)];omega
     have v6:IntKind.i64.wrap (6+6*(j:Int)+1)=1+6*((j+1:Nat):Int):=by rw [Xc (by omega) (by omega)];omega
     have hL:j<((mix (mkS (cpL x).length) (cpL x) j).map smr).length:=by rw [List.length_map];exact d0
     have d3:∀ row,decide ((j:Int)<((((mix (mkS (cpL x).length) (cpL x) j).map smr).set j row).length:Int))=true:=fun row=>by rw [List.length_set];exact d1
     have x1:=fun {row:List AV} {x y:R}=>Xn (x:=x) (y:=y) (d3 row)
     have st1:=r2
     refine go ?_
     clear st1
     exact IHS hlj _ _ (by rw [hwj,v1,v2,v3,v4,v5,v6];rfl) (by rw [←Zy (f:=smr) hmk hlj (Xwk hlj),v1,v2,v3,v4,v5];first | done | rfl)
    ·have hj2:j=(cpL x).length:=by omega
     have d1:decide ((j:Int)<(((mix (mkS (cpL x).length) (cpL x) j).map smr).length:Int))=false:=Xh (f:=smr) (by rw [Yg hmk (by omega)];omega)
     rw [Zz hmk hj2] at d1 ⊢
     subst hj2
     have hq1:decide (1+6*((cpL x).length:Int)<0)=false:=decide_eq_false (by omega)
     have hq2:((1+6*((cpL x).length:Int)) !=(1+6*((cpL x).length:Int)))=false:=Yb rfl
     have fq11:=@hI
     have fq1:=fun {n:Nat}=>Z0 (n:=n) hr
     have fq2:=fun {n:Nat}=>Xai (n:=n) hcl
     have fq3:=fun {n:Nat}=>Xgn (n:=n) hcl
     refine goD ?_
     clear fq1 fq2 fq3
     try with_reducible rfl
     all_goals rfl
end Go.Proofs.YtbploohjimpcaaaGreat.A
