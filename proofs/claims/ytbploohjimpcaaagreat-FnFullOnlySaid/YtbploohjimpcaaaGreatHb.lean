/- What the program's functions answer (Hb): no condition. -/
import Derived.Test.YtbploohjimpcaaaGreatGu
import Derived.Test.YtbploohjimpcaaaGreatGt
import Derived.Test.YtbploohjimpcaaaGreatGr
set_option linter.unusedVariables false
set_option linter.unusedSimpArgs false
namespace Go.Proofs.YtbploohjimpcaaaGreat.A
open Go Go.Abs
set_option maxRecDepth 100000
noncomputable def rp (m:Mac) (l:List Int) (k:Nat):Mac:=(l.take k).foldl doPk m
theorem Xqz {m:Mac} {l:List Int}:rp m l 0=m:=by unfold rp;rw [List.take_zero];rfl
theorem Xq0 {m:Mac} {l:List Int} {k:Nat} (h:k<l.length):rp m l (k+1)=doPk (rp m l k) (l.getD k default):=by
 unfold rp
 have e:l.getD k default=l[k]:=by simp [List.getD,h]
 rw [List.take_add_one,List.getElem?_eq_getElem h,List.foldl_append,e]
 rfl
theorem Xwl {c:Cf} {ps:List (List Op3)} {m:Mac} {l:List Int} {t:Int} (O:On c ps t m) (hl:∀ a∈l,0≤a∧a≤9000):∀ {k:Nat},k≤l.length→On c ps (t+(k:Int)) (rp m l k)
 | 0,_=>by rw [Xqz];simpa using O
 | k+1,h=>by
   rw [Xq0 h]
   have:=(Xwl O hl (k:=k) (Nat.le_of_lt h)).step (hl _ (Xi (Nat.lt_of_succ_le h)))
   rw [show t+((k+1:Nat):Int)=t+(k:Int)+1 by omega]
   exact this
set_option maxHeartbeats 8000000 in
theorem Xk8 {n:Nat} {c:Cf} {ps:List (List Op3)} {m:Mac} {l:List Int} (O:On c ps 0 m) (hl:∀ a∈l,0≤a∧a≤9000) (hn:l.length≤400):callP cfg (n+61) 74 [.agg (macA m),Xl l]=some ⟨.agg (macA (rp m l l.length)),[]⟩:=by
 rw [Xa]
 have hmr:m.room:=O.mi.mroom
 have hmin:(if false=true then max (2000:Int) ((l.map iA).length:Int) else min (2000:Int) ((l.map iA).length:Int))=(l.length:Int):=by rw [if_neg (by simp),List.length_map];omega
 have b0:decide (0≤(if false=true then max (2000:Int) ((l.map iA).length:Int) else min (2000:Int) ((l.map iA).length:Int)))=true:=by rw [hmin];exact decide_eq_true (by omega)
 have b1:decide ((if false=true then max (2000:Int) ((l.map iA).length:Int) else min (2000:Int) ((l.map iA).length:Int))≤((l.map iA).length:Int))=true:=by rw [hmin,List.length_map];exact decide_eq_true (by omega)
 have fq1:=fun {n:Nat}=>Z1 (n:=n) hmr
 refine goD ?_
 clear fq1
 have hN:(if false=true then max (2000:Int) ((l.map iA).length:Int) else min (2000:Int) ((l.map iA).length:Int)).toNat - Int.toNat 0=l.length:=by rw [hmin];simp
 refine (Xb (fun e k=>e.set 16 (.int .i64 (k:Int))) (fun h k=>h.set 4 (some ⟨false,false,true,17,[[.int .i64 (rp m l k).s.c.th,.int .i64 (rp m l k).s.c.keys,.int .i64 (rp m l k).s.c.cap,.int .i64 (rp m l k).s.c.b,.int .i64 (rp m l k).s.c.p,.int .i64 (rp m l k).s.c.cm,Xl (rp m l k).s.cells,Xl (rp m l k).s.gens,thsA (rp m l k).s.ths,.int .i64 (rp m l k).s.steps,.int .i64 (rp m l k).s.changes,.int .i64 (rp m l k).s.retries,.int .i64 (rp m l k).s.faults,Yt (rp m l k).progs,Xl (rp m l k).next,evsA (rp m l k).evs,.int .i64 (rp m l k).time]]⟩)) (fun _=>some ⟨.agg (macA (rp m l l.length)),[]⟩) l.length (by show _<18446744073709551616;omega) (by rw [Xqz];rfl) ?_).trans rfl
 intro k f hk IH
 by_cases hlt:k<l.length
 ·have e1:=Xf (f:=iA) hlt
  have e2:=Xg k
  have e3:decide ((k:Int)<(((if false=true then max (2000:Int) ((l.map iA).length:Int) else min (2000:Int) ((l.map iA).length:Int)).toNat - Int.toNat 0:Nat):Int))=true:=by rw [hN];exact decide_eq_true (by omega)
  have r1:=Xe (f:=iA) hlt
  have hw:=Xv (k:=k) (by omega)
  have O1:=Xwl O hl hk
  have hpk:=hl _ (Xi hlt)
  obtain ⟨q1,q2⟩:=Xhl O1 hpk
  have hPk:∀ {n:Nat},callP cfg (n+60) 50 [.agg (macA (rp m l k)),.int .i64 (l.getD k default)]=some ⟨.tup [.agg (macA (doPk (rp m l k) (l.getD k default))),.bool (canV (rp m l k) (pkN (rp m l k) (l.getD k default)))],[]⟩:=fun {n}=>Xf5 (n:=n) O1.mi q1 hpk q2
  have fq12:=@hPk
  refine go ?_
  try with_reducible rfl
  skip
  exact IH hlt _ _ (by rw [hw];rfl) (by rw [Xq0 hlt];rfl)
 ·obtain rfl:k=l.length:=by omega
  have e3:decide ((l.length:Int)<(((if false=true then max (2000:Int) ((l.map iA).length:Int) else min (2000:Int) ((l.map iA).length:Int)).toNat - Int.toNat 0:Nat):Int))=false:=by rw [hN];exact decide_eq_false (by omega)
  refine go ?_
  try with_reducible rfl
  all_goals rfl
set_option maxHeartbeats 4000000 in
theorem Xk9 {n:Nat} {m:Mac} {k:Nat} (M:MI m) (hk:k<m.evs.length):callP cfg (n+3) 179 [.agg (macA m),.int .i64 (k:Int)]=some ⟨.bool true,[]⟩:=by
 rw [Xa]
 have hlt:=hk
 have e1:=Xf (f:=evA) hlt
 have e2:=Xg k
 have r1:=Xe (f:=evA) hlt
 have hpn:=M.pn
 have hnl:=M.nl
 have hev:=M.ev _ (Xi hlt)
 have hwn:IntKind.i64.wrap (((m.next.map iA).length:Int) - 1)=(m.next.length:Int) - 1:=by rw [List.length_map,Xc (by omega) (by omega)]
 unfold evB at hev
 simp only [Bool.and_eq_true,Bool.or_eq_true,decide_eq_true_eq] at hev
 obtain ⟨⟨⟨a1,a2⟩,a3⟩,a4⟩:=hev
 have b1:(decide (0≤(m.evs.getD k default).th)&&decide ((m.evs.getD k default).th≤IntKind.i64.wrap (((m.next.map iA).length:Int) - 1)))=true:=by rw [hwn,decide_eq_true a1.1,decide_eq_true a1.2];rfl
 have b3:(decide (0≤(m.evs.getD k default).st)&&decide ((m.evs.getD k default).st≤m.time))=true:=by rw [decide_eq_true a3.1,decide_eq_true a3.2];rfl
 by_cases h4:(m.evs.getD k default).en=-1
 ·have b4:((m.evs.getD k default).en==-1)=true:=Yk h4
  have fq1:=@Xk
  have fq2:=@Yn
  refine goD ?_
  clear fq1 fq2
  try with_reducible rfl
  all_goals first | rfl | exact okB a2
 ·have b4:((m.evs.getD k default).en==-1)=false:=Xt h4
  have b5:(decide ((m.evs.getD k default).st≤(m.evs.getD k default).en)&&decide ((m.evs.getD k default).en≤m.time))=true:=by
   have:=a4.resolve_left h4
   rw [decide_eq_true this.1,decide_eq_true this.2];rfl
  have fq1:=@Xk
  have fq2:=@Yn
  refine goD ?_
  clear fq1 fq2
  try with_reducible rfl
  all_goals first | rfl | exact okB b5
set_option maxHeartbeats 4000000 in
theorem U2 {n:Nat} {m:Mac} (M:MI m):callP cfg (n+7) 111 [.agg (macA m)]=some ⟨.bool true,[]⟩:=by
 rw [Xa]
 obtain ⟨hr1,hr2,hr3,hr4,hr5⟩:=M.mroom
 have hr:=M.room
 have hi:=M.i64
 have hst:=M.sta
 have hpn:=M.pn
 have hnl:=M.nl
 have htm:=M.tm
 have hel:=M.el
 have b1:(((m.next.map iA).length:Int) !=m.s.c.th)=false:=Yb (by rw [List.length_map];have:=M.pl;omega)
 have b2:(((m.progs.map Xp).length:Int) !=m.s.c.th)=false:=Yb (by rw [List.length_map];have:=M.pl;omega)
 have b4:(decide (0≤m.time)&&decide (m.time≤1000000))=true:=by rw [decide_eq_true htm.1,decide_eq_true htm.2];rfl
 have b3:decide (((m.evs.map evA).length:Int)>80)=false:=decide_eq_false (by rw [List.length_map];omega)
 have fq1:=fun {n:Nat}=>Xr (n:=n) hr hi
 have fq2:=@Xk
 refine go ?_
 clear fq1 fq2
 refine (Xb (fun e k=>e.set 3 (.int .i64 (k:Int))) (fun h _=>h) (fun _=>some ⟨.bool true,[]⟩) m.progs.length (by show _<18446744073709551616;omega) rfl ?_).trans rfl
 intro k f hk IH
 by_cases hlt:k<m.progs.length
 ·have e1:=Xf (f:=Xp) hlt
  have e2:=Xg k
  have r1:=Xe (f:=Xp) hlt
  have e3:decide ((k:Int)<((m.next.map iA).length:Int))=true:=Xf (by omega)
  have r2:(m.next.map iA)[k]?=some (iA (m.next.getD k default)):=Xe (by omega)
  have hw:=Xv (k:=k) (by omega)
  have hn:=M.nx k (by omega)
  have hpl:=hr3 _ (Xi hlt)
  have hpb:=M.pr _ (Xi hlt)
  have b5:(decide (0≤m.next.getD k default)&&decide (m.next.getD k default≤(((m.progs.getD k default).map opA).length:Int)))=true:=by rw [List.length_map,decide_eq_true hn.1,decide_eq_true hn.2];rfl
  have fq1:=@Xk
  have fq2:=fun {n:Nat}=>Vr (n:=n) hpl
  refine goD ?_
  clear fq1 fq2
  try with_reducible rfl
  exact IH hlt _ _ (by rw [hw];rfl) rfl
 ·have e1:=Xh (f:=Xp) (Nat.le_of_not_lt hlt)
  clear IH
  refine go ?_
  refine (Xb (fun e k=>e.set 4 (.int .i64 (k:Int))) (fun h _=>h) (fun _=>some ⟨.bool true,[]⟩) m.evs.length (by show _<18446744073709551616;omega) rfl ?_).trans rfl
  intro k f hk IH
  by_cases hlt:k<m.evs.length
  ·have e1:=Xf (f:=evA) hlt
   have e2:=Xg k
   have hw:=Xv (k:=k) (by omega)
   have fq12:=fun {n:Nat}=>Xk9 (n:=n) M hlt
   refine go ?_
   try with_reducible rfl
   exact IH hlt _ _ (by rw [hw];rfl) rfl
  ·have e1:=Xh (f:=evA) (Nat.le_of_not_lt hlt)
   refine go ?_
   try with_reducible rfl
   all_goals rfl
set_option maxHeartbeats 4000000 in
theorem Xf6 {n:Nat} {m:Mac} (hm:m.room):callP cfg (n+3) 110 [.agg (macA m)]=some ⟨.agg (macA m),[]⟩:=by
 rw [Xa]
 obtain ⟨h1,h2,h3,h4,h5⟩:=hm
 have l0:Y0 (m.next.map iA)=true:=Yx fun x=>rfl
 have m0:decide ((([]:List (List AV)).length+(m.next.map iA).length)*8≤Yf)=true:=decide_eq_true (by simp only [List.length_nil,Nat.zero_add,List.length_map];show _≤140737488355328;omega)
 have l2:Y0 (m.evs.map evA)=true:=Yx fun x=>rfl
 have m2:decide ((([]:List (List AV)).length+(m.evs.map evA).length)*64≤Yf)=true:=decide_eq_true (by simp only [List.length_nil,Nat.zero_add,List.length_map];show _≤140737488355328;omega)
 have fq1:=fun {n:Nat}=>W5 (n:=n) h1
 have x1:=fun {x y:R}=>Xn (x:=x) (y:=y) m0
 have x2:=fun {x y:R}=>Xn (x:=x) (y:=y) m2
 refine goD ?_
 repeat (refine (Xly _ _).trans ?_;refine goD ?_)
 clear fq1 x1 x2
 refine (Xb (fun e k=>e.set 4 (.int .i64 (k:Int))) (fun h k=>h.set 17 (some ⟨false,false,true,17,[[.int .i64 m.s.c.th,.int .i64 m.s.c.keys,.int .i64 m.s.c.cap,.int .i64 m.s.c.b,.int .i64 m.s.c.p,.int .i64 m.s.c.cm,Xl m.s.cells,Xl m.s.gens,thsA m.s.ths,.int .i64 m.s.steps,.int .i64 m.s.changes,.int .i64 m.s.retries,.int .i64 m.s.faults,.lst 1 ((m.progs.take k).map Xp),Xl m.next,evsA m.evs,.int .i64 m.time]]⟩)) (fun _=>some ⟨.agg (macA m),[]⟩) m.progs.length (by show _<18446744073709551616;omega) rfl ?_).trans rfl
 intro k f hk IH
 by_cases hlt:k<m.progs.length
 ·have e1:=Xf (f:=Xp) hlt
  have e2:=Xg k
  have r1:=Xe (f:=Xp) hlt
  have hw:=Xv (k:=k) (by omega)
  have hm:=h3 _ (Xi hlt)
  have l1:Y0 ((m.progs.getD k default).map opA)=true:=Yx fun x=>rfl
  have m1:decide ((([]:List (List AV)).length+((m.progs.getD k default).map opA).length)*24≤Yf)=true:=decide_eq_true (by simp only [List.length_nil,Nat.zero_add,List.length_map];show _≤140737488355328;omega)
  have e3:decide ((((m.progs.take k).map Xp).length+1)*24≤Yf)=true:=decide_eq_true (by
   have:((m.progs.take k).map Xp).length=k:=by rw [List.length_map,List.length_take];omega
   rw [this];show _≤140737488355328;omega)
  have x1:=fun {x y:R}=>Xn (x:=x) (y:=y) m1
  have x2:=fun {x y:R}=>Xn (x:=x) (y:=y) e3
  refine goD ?_
  clear x1 x2
  try with_reducible rfl
  exact IH hlt _ _ (by rw [hw];rfl) (by rw [←Xb6 hlt];rfl)
 ·have e1:=Xh (f:=Xp) (Nat.le_of_not_lt hlt)
  obtain rfl:k=m.progs.length:=by omega
  rw [List.take_length]
  refine go ?_
  try with_reducible rfl
  all_goals rfl
set_option maxHeartbeats 4000000 in
theorem Xn4 {n:Nat} {pk n':Int} (h0:0≤pk∧pk≤9000) (h1:1≤n'∧n'≤4):callP cfg (n+1) 112 [.int .i64 pk,.int .i64 n']=some ⟨.int .i64 (pk % n'),[]⟩:=by
 rw [Xa]
 have hz:decide (n'=0)=false:=decide_eq_false (by omega)
 have w1:pk.tmod n'=pk % n':=Int.tmod_eq_emod_of_nonneg h0.1
 have g1:0≤pk % n':=Int.emod_nonneg _ (by omega)
 have g2:pk % n'<n':=Int.emod_lt_of_pos _ (by omega)
 have w2:IntKind.i64.wrap (pk.tmod n'+n')=pk % n'+n':=by rw [w1];exact Xc (by omega) (by omega)
 have w3:(IntKind.i64.wrap (pk.tmod n'+n')).tmod n'=pk % n':=by
  rw [w2,Int.tmod_eq_emod_of_nonneg (by omega)]
  have h4:n'=1∨n'=2∨n'=3∨n'=4:=by omega
  rcases h4 with rfl | rfl | rfl | rfl <;> omega
 refine go ?_
 try with_reducible rfl
 exact okI w3
set_option maxHeartbeats 8000000 in
theorem Xla {n:Nat} {c:Cf} {ps:List (List Op3)} {m:Mac} {l:List Int} (O:On c ps 0 m) (hl:∀ a∈l,0≤a∧a≤9000) (hn:l.length≤400):callP cfg (n+68) 70 [.agg (macA m),Xl l]=some ⟨.agg (macA (rp m l l.length)),[]⟩:=by
 rw [Xa]
 have hmr:m.room:=O.mi.mroom
 have fq1:=fun {n:Nat}=>Xf6 (n:=n) hmr
 refine goD ?_
 clear fq1
 skip
 refine (Xb (fun e k=>e.set 6 (.int .i64 (k:Int))) (fun h k=>h.set 4 (some ⟨false,false,true,17,[[.int .i64 (rp m l k).s.c.th,.int .i64 (rp m l k).s.c.keys,.int .i64 (rp m l k).s.c.cap,.int .i64 (rp m l k).s.c.b,.int .i64 (rp m l k).s.c.p,.int .i64 (rp m l k).s.c.cm,Xl (rp m l k).s.cells,Xl (rp m l k).s.gens,thsA (rp m l k).s.ths,.int .i64 (rp m l k).s.steps,.int .i64 (rp m l k).s.changes,.int .i64 (rp m l k).s.retries,.int .i64 (rp m l k).s.faults,Yt (rp m l k).progs,Xl (rp m l k).next,evsA (rp m l k).evs,.int .i64 (rp m l k).time]]⟩)) (fun _=>some ⟨.agg (macA (rp m l l.length)),[]⟩) l.length (by show _<18446744073709551616;omega) (by rw [Xqz];rfl) ?_).trans rfl
 intro k f hk IH
 by_cases hlt:k<l.length
 ·have e1:=Xf (f:=iA) hlt
  have e2:=Xg k
  have e3:decide ((k:Int)<2000)=true:=decide_eq_true (by omega)
  have r1:=Xe (f:=iA) hlt
  have hw:=Xv (k:=k) (by omega)
  have O1:=Xwl O hl hk
  have hpk:=hl _ (Xi hlt)
  have M1:=O1.mi
  have htm:=O1.tm
  have e4:decide ((rp m l k).time<1000000)=true:=decide_eq_true (by omega)
  have hpn:=O1.pn
  have hnl:=O1.mi.nl
  obtain ⟨q1,q2⟩:=Xhl O1 hpk
  have hMd:∀ {n:Nat},callP cfg (n+1) 112 [.int .i64 (l.getD k default),.int .i64 (((rp m l k).next.map iA).length:Int)]=some ⟨.int .i64 ((pkN (rp m l k) (l.getD k default):Nat):Int),[]⟩:=fun {n}=>by
   rw [Xn4 (n:=n) ⟨hpk.1,by omega⟩ (by rw [List.length_map];omega),List.length_map,hnl,q2]
  have fq11:=@hMd
  have hPk:∀ {n:Nat},callP cfg (n+67) 89 [.pv (macA (rp m l k)),.int .i64 ((pkN (rp m l k) (l.getD k default):Nat):Int)]=some ⟨.bool (canV (rp m l k) (pkN (rp m l k) (l.getD k default))),macA (doPk (rp m l k) (l.getD k default))⟩:=fun {n}=>Xcw (n:=n) O1.mi q1 (by omega)
  have fq12:=@hPk
  have fq1:=fun {n:Nat}=>U2 (n:=n) M1
  refine goD ?_
  clear fq1
  try with_reducible rfl
  exact IH hlt _ _ (by rw [hw];rfl) (by rw [Xq0 hlt];rfl)
 ·have e1:=Xh (f:=iA) (Nat.le_of_not_lt hlt)
  obtain rfl:k=l.length:=by omega
  refine go ?_
  try with_reducible rfl
  all_goals rfl
noncomputable def rsV (x:Scr):Mac:=rp (Uf x.c x.ps) x.picks x.picks.length
theorem Xq1 {x:Scr} (hs:scrB x=true):∀ a∈x.picks,0≤a∧a≤9000:=fun a ha=>by
 obtain ⟨i,hi,rfl⟩:=mem_get ha
 exact Xqw hs hi
theorem Xng {x:Scr} (hs:scrB x=true):On x.c x.ps (x.picks.length:Int) (rsV x):=by
 have:=Xwl (On.new (Xkf hs)) (Xq1 hs) (Nat.le_refl x.picks.length)
 rw [Int.zero_add] at this
 exact this
set_option maxHeartbeats 4000000 in
theorem Xd4 {n:Nat} {x:Scr} (hx:x.room):callP cfg (n+62) 18 [.agg (scrA x)]=some ⟨.tup [.agg (if scrB x=true then macA (rsV x) else macA mac0),.bool (scrB x)],[]⟩:=by
 rw [Xa]
 obtain ⟨h1,h2,h3⟩:=id hx
 by_cases hs:scrB x=true
 ·rw [if_pos hs,hs]
  have hpr:=Xkf hs
  have hls:=Xep hs
  have O:=On.new hpr
  have hal:=Xq1 hs
  have hI:=fun {n:Nat}=>Vk (n:=n) hx
  rw [hs] at hI
  have fq12:=@hI
  have fq1:=fun {n:Nat}=>Xda (n:=n) hpr
  have fq2:=fun {n:Nat}=>Xk8 (n:=n) O hal hls
  refine go ?_
  clear fq1 fq2
  try with_reducible rfl
  all_goals rfl
 ·replace hs:scrB x=false:=by simpa using hs
  rw [if_neg (by rw [hs];simp),hs]
  have hI:=fun {n:Nat}=>Vk (n:=n) hx
  rw [hs] at hI
  have fq12:=@hI
  refine go ?_
  try with_reducible rfl
  all_goals rfl
set_option maxHeartbeats 4000000 in
theorem Xd5 {n:Nat} {x:Scr} (hx:x.room):callP cfg (n+69) 16 [.agg (scrA x)]=some ⟨.tup [.agg (if scrB x=true then macA (rsV x) else macA mac0),.bool (scrB x)],[]⟩:=by
 rw [Xa]
 obtain ⟨h1,h2,h3⟩:=id hx
 by_cases hs:scrB x=true
 ·rw [if_pos hs,hs]
  have hpr:=Xkf hs
  have hls:=Xep hs
  have O:=On.new hpr
  have hal:=Xq1 hs
  have hI:=fun {n:Nat}=>Ws (n:=n) hx
  rw [hs] at hI
  have fq12:=@hI
  have hNM:=fun {n:Nat}=>Wp (n:=n) (c:=x.c) (ps:=x.ps) h1 h2
  rw [if_pos hpr,hpr] at hNM
  have fq11:=@hNM
  have fq1:=fun {n:Nat}=>Xla (n:=n) O hal hls
  refine go ?_
  clear fq1
  try with_reducible rfl
  all_goals rfl
 ·replace hs:scrB x=false:=by simpa using hs
  rw [if_neg (by rw [hs];simp),hs]
  have hI:=fun {n:Nat}=>Ws (n:=n) hx
  rw [hs] at hI
  have fq12:=@hI
  by_cases hpr:Vv x.c x.ps=true
  ·have hNM:=fun {n:Nat}=>Wp (n:=n) (c:=x.c) (ps:=x.ps) h1 h2
   rw [if_pos hpr,hpr] at hNM
   have fq11:=@hNM
   refine go ?_
   try with_reducible rfl
   all_goals rfl
  ·replace hpr:Vv x.c x.ps=false:=by simpa using hpr
   have hNM:=fun {n:Nat}=>Wp (n:=n) (c:=x.c) (ps:=x.ps) h1 h2
   rw [if_neg (by rw [hpr];simp),hpr] at hNM
   have fq11:=@hNM
   refine go ?_
   try with_reducible rfl
   all_goals rfl
end Go.Proofs.YtbploohjimpcaaaGreat.A
