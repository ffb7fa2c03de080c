/- What the program's functions answer (Gv): no condition. -/
import Derived.Test.YtbploohjimpcaaaGreatGu
import Derived.Test.YtbploohjimpcaaaGreatGea
import Derived.Test.YtbploohjimpcaaaGreatGr
import Derived.Test.YtbploohjimpcaaaGreatGf
import Derived.Test.YtbploohjimpcaaaGreatLib3
import Derived.Test.YtbploohjimpcaaaGreatGt
set_option linter.unusedVariables false
set_option linter.unusedSimpArgs false
namespace Go.Proofs.YtbploohjimpcaaaGreat.A
open Go Go.Abs
set_option maxRecDepth 100000
noncomputable def sumS (st:Mac×Int) (pk:Int):Mac×Int:=(doPk st.1 pk,max st.2 (alV (doPk st.1 pk).s))
noncomputable def sumR (x:Scr) (k:Nat):Mac×Int:=(x.picks.take k).foldl sumS (Uf x.c x.ps,0)
theorem Xke {x:Scr} {k:Nat} (h:k<x.picks.length):sumR x (k+1)=sumS (sumR x k) (x.picks.getD k default):=by
 unfold sumR
 have e:x.picks.getD k default=x.picks[k]:=by simp [List.getD,h]
 rw [List.take_add_one,List.getElem?_eq_getElem h,List.foldl_append,e]
 rfl
theorem Xiy {x:Scr} (hs:scrB x=true):∀ {k:Nat},k≤x.picks.length→On x.c x.ps (k:Int) (sumR x k).1
 | 0,_=>On.new (Xkf hs)
 | k+1,h=>by
   rw [Xke h]
   have:=(Xiy hs (k:=k) (by omega)).step (Xqw hs h)
   rw [show ((k+1:Nat):Int)=(k:Int)+1 by omega]
   exact this
noncomputable def sumA (x:Scr):List AV :=
 let st:=sumR x x.picks.length
 [.int .i64 x.c.p,.int .i64 st.1.s.steps,.int .i64 st.1.s.retries,.int .i64 st.2,.int .i64 (alV st.1.s),.int .i64 (refC st.1.evs)]
set_option maxHeartbeats 8000000 in
theorem Xa2 {n:Nat} {x:Scr} (hx:x.room):callP cfg (n+61) 27 [.agg (scrA x)]=some ⟨.tup [.agg (if scrB x=true then sumA x else [.int .i64 0,.int .i64 0,.int .i64 0,.int .i64 0,.int .i64 0,.int .i64 0]),.bool (scrB x)],[]⟩:=by
 rw [Xa]
 obtain ⟨h1,h2,h3⟩:=id hx
 by_cases hs:scrB x=true
 ·rw [if_pos hs,hs]
  have hpr:=Xkf hs
  have hls:=Xep hs
  have fq1:=fun {n:Nat}=>Vk (n:=n) hx
  have fq2:=fun {n:Nat}=>Xda (n:=n) hpr
  refine go ?_
  clear fq1 fq2
  refine (Xb (fun e k=>e.set 30 (.int .i64 (k:Int))) (fun h k=>(h.set 4 (some ⟨false,false,true,17,[[.int .i64 (sumR x k).1.s.c.th,.int .i64 (sumR x k).1.s.c.keys,.int .i64 (sumR x k).1.s.c.cap,.int .i64 (sumR x k).1.s.c.b,.int .i64 (sumR x k).1.s.c.p,.int .i64 (sumR x k).1.s.c.cm,Xl (sumR x k).1.s.cells,Xl (sumR x k).1.s.gens,thsA (sumR x k).1.s.ths,.int .i64 (sumR x k).1.s.steps,.int .i64 (sumR x k).1.s.changes,.int .i64 (sumR x k).1.s.retries,.int .i64 (sumR x k).1.s.faults,Yt (sumR x k).1.progs,Xl (sumR x k).1.next,evsA (sumR x k).1.evs,.int .i64 (sumR x k).1.time]]⟩)).set 5 (some ⟨false,false,true,6,[[.int .i64 x.c.p,.int .i64 0,.int .i64 0,.int .i64 (sumR x k).2,.int .i64 0,.int .i64 0]]⟩)) (fun _=>some ⟨.tup [.agg (sumA x),.bool true],[]⟩) x.picks.length (by show _<18446744073709551616;omega) rfl ?_).trans rfl
  intro k f hk IH
  by_cases hlt:k<x.picks.length
  ·have e1:=Xf (f:=iA) hlt
   have e2:=Xg k
   have r1:=Xe (f:=iA) hlt
   have hw:=Xv (k:=k) (by omega)
   have O:=Xiy hs hk
   have hpk:=Xqw hs hlt
   obtain ⟨q1,q2⟩:=Xhl O hpk
   have O2:=O.step hpk
   have hPk:∀ {n:Nat},callP cfg (n+60) 50 [.agg (macA (sumR x k).1),.int .i64 (x.picks.getD k default)]=some ⟨.tup [.agg (macA (doPk (sumR x k).1 (x.picks.getD k default))),.bool (canV (sumR x k).1 (pkN (sumR x k).1 (x.picks.getD k default)))],[]⟩:=fun {n}=>Xf5 (n:=n) O.mi q1 hpk q2
   have fq12:=@hPk
   have hro:=O2.mi.room
   have hio:=O2.mi.i64
   have fq1:=fun {n:Nat}=>Xd2 (n:=n) hro hio
   refine goD ?_
   clear fq1
   try with_reducible rfl
   refine IH hlt _ _ (by rw [hw];rfl) (by rw [Xke hlt];rfl)
  ·have e1:=Xh (f:=iA) (Nat.le_of_not_lt hlt)
   obtain rfl:k=x.picks.length:=by omega
   have O:=Xiy hs (Nat.le_refl x.picks.length)
   obtain ⟨st,hst⟩:∃ st,st=sumR x x.picks.length:=⟨_,rfl⟩
   have hA:sumA x=[.int .i64 x.c.p,.int .i64 st.1.s.steps,.int .i64 st.1.s.retries,.int .i64 st.2,.int .i64 (alV st.1.s),.int .i64 (refC st.1.evs)]:=by rw [hst];rfl
   rw [hA]
   rw [←hst] at O ⊢
   have hro:=O.mi.room
   have hio:=O.mi.i64
   have hel:=O.mi.el
   have fq1:=fun {n:Nat}=>Xd2 (n:=n) hro hio
   refine goD ?_
   clear fq1
   refine (Xb (fun e k=>e.set 63 (.int .i64 (k:Int))) (fun h k=>h.set 5 (some ⟨false,false,true,6,[[.int .i64 x.c.p,.int .i64 st.1.s.steps,.int .i64 st.1.s.retries,.int .i64 st.2,.int .i64 (alV st.1.s),.int .i64 (refC (st.1.evs.take k))]]⟩)) (fun _=>some ⟨.tup [.agg [.int .i64 x.c.p,.int .i64 st.1.s.steps,.int .i64 st.1.s.retries,.int .i64 st.2,.int .i64 (alV st.1.s),.int .i64 (refC st.1.evs)],.bool true],[]⟩) st.1.evs.length (by show _<18446744073709551616;omega) rfl ?_).trans rfl
   clear IH
   intro k f hk IH
   by_cases hlt:k<st.1.evs.length
   ·have e1:=Xf (f:=evA) hlt
    have e2:=Xg k
    have r1:=Xe (f:=evA) hlt
    have hw:=Xv (k:=k) (by omega)
    have hc0:0≤(refC (st.1.evs.take k)):=by unfold refC;omega
    have hc1:(refC (st.1.evs.take k))≤80:=by
     have:=List.length_filter_le refE (st.1.evs.take k)
     rw [List.length_take] at this
     unfold refC;omega
    have hev:=O.mi.ev _ (Xi hlt)
    have hen:(st.1.evs.getD k default).en=-1∨0≤(st.1.evs.getD k default).en:=by
     unfold evB inB at hev
     simp only [Bool.and_eq_true,Bool.or_eq_true,decide_eq_true_eq] at hev
     omega
    by_cases a1:(st.1.evs.getD k default).en≠-1
    ·by_cases a2:(st.1.evs.getD k default).res.c>1
     ·have hv:refE (st.1.evs.getD k default)=true:=by unfold refE;rw [decide_eq_true a1,decide_eq_true a2];rfl
      have hcs:(refC (st.1.evs.take (k+1)))=(refC (st.1.evs.take k))+1:=by unfold refC;rw [Zg (d:=default) hlt hv,List.length_append];simp
      have hwc:IntKind.i64.wrap ((refC (st.1.evs.take k))+1)=(refC (st.1.evs.take k))+1:=Xc (by omega) (by omega)
      have b4:((st.1.evs.getD k default).en !=-1)=true:=Zn a1
      have b5:decide ((st.1.evs.getD k default).res.c>1)=true:=decide_eq_true a2
      refine go ?_
      try with_reducible rfl
      refine IH hlt _ _ (by rw [hw];rfl) (by rw [hcs,hwc];rfl)
     ·have hv:refE (st.1.evs.getD k default)=false:=by unfold refE;rw [decide_eq_false a2,Bool.and_false]
      have hcs:(refC (st.1.evs.take (k+1)))=(refC (st.1.evs.take k)):=by unfold refC;rw [Zb (d:=default) hlt hv]
      have b4:((st.1.evs.getD k default).en !=-1)=true:=Zn a1
      have b5:decide ((st.1.evs.getD k default).res.c>1)=false:=decide_eq_false a2
      refine go ?_
      try with_reducible rfl
      refine IH hlt _ _ (by rw [hw];rfl) (by rw [hcs];rfl)
    ·replace a1:(st.1.evs.getD k default).en=-1:=by simpa using a1
     have hv:refE (st.1.evs.getD k default)=false:=by unfold refE;rw [decide_eq_false (by simpa using a1)];rfl
     have hcs:(refC (st.1.evs.take (k+1)))=(refC (st.1.evs.take k)):=by unfold refC;rw [Zb (d:=default) hlt hv]
     have b4:((st.1.evs.getD k default).en !=-1)=false:=Yb a1
     refine go ?_
     try with_reducible rfl
     refine IH hlt _ _ (by rw [hw];rfl) (by rw [hcs];rfl)
   ·have e1:=Xh (f:=evA) (Nat.le_of_not_lt hlt)
    obtain rfl:k=st.1.evs.length:=by omega
    rw [List.take_length]
    refine go ?_
    try with_reducible rfl
 ·replace hs:scrB x=false:=by simpa using hs
  rw [if_neg (by rw [hs];simp),hs]
  have fq1:=fun {n:Nat}=>Vk (n:=n) hx
  refine go ?_
  clear fq1
  try with_reducible rfl
  all_goals rfl
set_option maxHeartbeats 8000000 in
theorem Xa3 {n:Nat} {x:Scr} (hx:x.room):callP cfg (n+68) 26 [.agg (scrA x)]=some ⟨.tup [.agg (if scrB x=true then sumA x else [.int .i64 0,.int .i64 0,.int .i64 0,.int .i64 0,.int .i64 0,.int .i64 0]),.bool (scrB x)],[]⟩:=by
 rw [Xa]
 obtain ⟨h1,h2,h3⟩:=id hx
 by_cases hs:scrB x=true
 ·rw [if_pos hs,hs]
  have hpr:=Xkf hs
  have hls:=Xep hs
  have hNM:=fun {n:Nat}=>Wp (n:=n) (c:=x.c) (ps:=x.ps) h1 h2
  rw [if_pos hpr,hpr] at hNM
  have fq12:=@hNM
  have fq1:=fun {n:Nat}=>Ws (n:=n) hx
  refine go ?_
  clear fq1
  refine (Xb (fun e k=>e.set 7 (.int .i64 (k:Int))) (fun h k=>(h.set 4 (some ⟨false,false,true,17,[[.int .i64 (sumR x k).1.s.c.th,.int .i64 (sumR x k).1.s.c.keys,.int .i64 (sumR x k).1.s.c.cap,.int .i64 (sumR x k).1.s.c.b,.int .i64 (sumR x k).1.s.c.p,.int .i64 (sumR x k).1.s.c.cm,Xl (sumR x k).1.s.cells,Xl (sumR x k).1.s.gens,thsA (sumR x k).1.s.ths,.int .i64 (sumR x k).1.s.steps,.int .i64 (sumR x k).1.s.changes,.int .i64 (sumR x k).1.s.retries,.int .i64 (sumR x k).1.s.faults,Yt (sumR x k).1.progs,Xl (sumR x k).1.next,evsA (sumR x k).1.evs,.int .i64 (sumR x k).1.time]]⟩)).set 5 (some ⟨false,false,true,6,[[.int .i64 x.c.p,.int .i64 0,.int .i64 0,.int .i64 (sumR x k).2,.int .i64 0,.int .i64 0]]⟩)) (fun _=>some ⟨.tup [.agg (sumA x),.bool true],[]⟩) x.picks.length (by show _<18446744073709551616;omega) rfl ?_).trans rfl
  intro k f hk IH
  by_cases hlt:k<x.picks.length
  ·have e1:=Xf (f:=iA) hlt
   have e2:=Xg k
   have r1:=Xe (f:=iA) hlt
   have hw:=Xv (k:=k) (by omega)
   have O:=Xiy hs hk
   have hpk:=Xqw hs hlt
   obtain ⟨q1,q2⟩:=Xhl O hpk
   have O2:=O.step hpk
   have hpn:=O.pn
   have hth:x.c.th=((sumR x k).1.progs.length:Int):=by rw [←O.mi.pl.symm,O.cf]
   have hz:decide (x.c.th=0)=false:=decide_eq_false (by omega)
   have htk:=O.tm
   have htd:(x.picks.getD k default).tmod x.c.th=((pkN (sumR x k).1 (x.picks.getD k default):Nat):Int):=by rw [Int.tmod_eq_emod_of_nonneg hpk.1,hth];exact q2
   have hPk:∀ {n:Nat},callP cfg (n+67) 89 [.pv (macA (sumR x k).1),.int .i64 ((x.picks.getD k default).tmod x.c.th)]=some ⟨.bool (canV (sumR x k).1 (pkN (sumR x k).1 (x.picks.getD k default))),macA (doPk (sumR x k).1 (x.picks.getD k default))⟩:=fun {n}=>by
    rw [htd]
    exact Xcw (n:=n) O.mi q1 (by omega)
   have fq12:=@hPk
   have hro:=O2.mi.room
   have hio:=O2.mi.i64
   have fq1:=fun {n:Nat}=>Xd0 (n:=n) hro hio
   refine goD ?_
   clear fq1
   try with_reducible rfl
   refine IH hlt _ _ (by rw [hw];rfl) (by rw [Xke hlt];rfl)
  ·have e1:=Xh (f:=iA) (Nat.le_of_not_lt hlt)
   obtain rfl:k=x.picks.length:=by omega
   have O:=Xiy hs (Nat.le_refl x.picks.length)
   obtain ⟨st,hst⟩:∃ st,st=sumR x x.picks.length:=⟨_,rfl⟩
   have hA:sumA x=[.int .i64 x.c.p,.int .i64 st.1.s.steps,.int .i64 st.1.s.retries,.int .i64 st.2,.int .i64 (alV st.1.s),.int .i64 (refC st.1.evs)]:=by rw [hst];rfl
   rw [hA]
   rw [←hst] at O ⊢
   have hro:=O.mi.room
   have hio:=O.mi.i64
   have hel:=O.mi.el
   have fq1:=fun {n:Nat}=>Xd0 (n:=n) hro hio
   refine goD ?_
   clear fq1
   refine (Xb (fun e k=>e.set 8 (.int .i64 (k:Int))) (fun h k=>h.set 5 (some ⟨false,false,true,6,[[.int .i64 x.c.p,.int .i64 st.1.s.steps,.int .i64 st.1.s.retries,.int .i64 st.2,.int .i64 (alV st.1.s),.int .i64 (refC (st.1.evs.take k))]]⟩)) (fun _=>some ⟨.tup [.agg [.int .i64 x.c.p,.int .i64 st.1.s.steps,.int .i64 st.1.s.retries,.int .i64 st.2,.int .i64 (alV st.1.s),.int .i64 (refC st.1.evs)],.bool true],[]⟩) st.1.evs.length (by show _<18446744073709551616;omega) rfl ?_).trans rfl
   clear IH
   intro k f hk IH
   by_cases hlt:k<st.1.evs.length
   ·have e1:=Xf (f:=evA) hlt
    have e2:=Xg k
    have r1:=Xe (f:=evA) hlt
    have hw:=Xv (k:=k) (by omega)
    have hc0:0≤(refC (st.1.evs.take k)):=by unfold refC;omega
    have hc1:(refC (st.1.evs.take k))≤80:=by
     have:=List.length_filter_le refE (st.1.evs.take k)
     rw [List.length_take] at this
     unfold refC;omega
    have hev:=O.mi.ev _ (Xi hlt)
    have hen:(st.1.evs.getD k default).en=-1∨0≤(st.1.evs.getD k default).en:=by
     unfold evB inB at hev
     simp only [Bool.and_eq_true,Bool.or_eq_true,decide_eq_true_eq] at hev
     omega
    by_cases a1:(st.1.evs.getD k default).en≠-1
    ·by_cases a2:(st.1.evs.getD k default).res.c>1
     ·have hv:refE (st.1.evs.getD k default)=true:=by unfold refE;rw [decide_eq_true a1,decide_eq_true a2];rfl
      have hcs:(refC (st.1.evs.take (k+1)))=(refC (st.1.evs.take k))+1:=by unfold refC;rw [Zg (d:=default) hlt hv,List.length_append];simp
      have hwc:IntKind.i64.wrap ((refC (st.1.evs.take k))+1)=(refC (st.1.evs.take k))+1:=Xc (by omega) (by omega)
      have b4:decide ((st.1.evs.getD k default).en≥0)=true:=decide_eq_true (by omega)
      have b5:decide ((st.1.evs.getD k default).res.c>1)=true:=decide_eq_true a2
      refine goD ?_
      try with_reducible rfl
      refine IH hlt _ _ (by rw [hw];rfl) (by rw [hcs,hwc];rfl)
     ·have hv:refE (st.1.evs.getD k default)=false:=by unfold refE;rw [decide_eq_false a2,Bool.and_false]
      have hcs:(refC (st.1.evs.take (k+1)))=(refC (st.1.evs.take k)):=by unfold refC;rw [Zb (d:=default) hlt hv]
      have b4:decide ((st.1.evs.getD k default).en≥0)=true:=decide_eq_true (by omega)
      have b5:decide ((st.1.evs.getD k default).res.c>1)=false:=decide_eq_false a2
      refine goD ?_
      try with_reducible rfl
      refine IH hlt _ _ (by rw [hw];rfl) (by rw [hcs];rfl)
    ·replace a1:(st.1.evs.getD k default).en=-1:=by simpa using a1
     have hv:refE (st.1.evs.getD k default)=false:=by unfold refE;rw [decide_eq_false (by simpa using a1)];rfl
     have hcs:(refC (st.1.evs.take (k+1)))=(refC (st.1.evs.take k)):=by unfold refC;rw [Zb (d:=default) hlt hv]
     have b4:decide ((st.1.evs.getD k default).en≥0)=false:=decide_eq_false (by omega)
     refine goD ?_
     try with_reducible rfl
     refine IH hlt _ _ (by rw [hw];rfl) (by rw [hcs];rfl)
   ·have e1:=Xh (f:=evA) (Nat.le_of_not_lt hlt)
    obtain rfl:k=st.1.evs.length:=by omega
    rw [List.take_length]
    refine go ?_
    try with_reducible rfl
 ·replace hs:scrB x=false:=by simpa using hs
  rw [if_neg (by rw [hs];simp),hs]
  by_cases hpr:Vv x.c x.ps=true
  ·have hNM:=fun {n:Nat}=>Wp (n:=n) (c:=x.c) (ps:=x.ps) h1 h2
   rw [if_pos hpr,hpr] at hNM
   have fq12:=@hNM
   have fq1:=fun {n:Nat}=>Ws (n:=n) hx
   refine go ?_
   clear fq1
   try with_reducible rfl
   all_goals rfl
  ·replace hpr:Vv x.c x.ps=false:=by simpa using hpr
   have hNM:=fun {n:Nat}=>Wp (n:=n) (c:=x.c) (ps:=x.ps) h1 h2
   rw [if_neg (by rw [hpr];simp),hpr] at hNM
   have fq12:=@hNM
   have fq1:=fun {n:Nat}=>Ws (n:=n) hx
   refine go ?_
   clear fq1
   try with_reducible rfl
   all_goals rfl
end Go.Proofs.YtbploohjimpcaaaGreat.A
