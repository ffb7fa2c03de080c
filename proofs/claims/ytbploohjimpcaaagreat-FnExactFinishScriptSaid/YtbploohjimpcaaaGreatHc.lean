/- What the program's functions answer (Hc): no condition. -/
import Derived.Test.YtbploohjimpcaaaGreatHb
set_option linter.unusedVariables false
set_option linter.unusedSimpArgs false
namespace Go.Proofs.YtbploohjimpcaaaGreat.A
open Go Go.Abs
set_option maxRecDepth 100000
def quB (m:Mac):Bool:=!m.s.ths.any fun t=>t.pc !=0
def nxE (m:Mac) (i:Nat):Bool:=!decide (m.next.getD i default<((m.progs.getD i default).length:Int))
def Xg2 (m:Mac):Bool:=quB m&&(List.range m.progs.length).all (nxE m)
theorem Xf7 {n:Nat} {t:Th}:callP cfg (n+1) 284 [.agg (thA t)]=some ⟨.bool (t.pc !=0),[]⟩:=by
 rw [Xa]
 refine go ?_
 try with_reducible rfl
theorem X5w {n:Nat} {xs:List Th} (hx:xs.length≤maxLen):callP cfg (n+2) 263 [thsA xs,.fn 284 []]=some ⟨.int .i64 (idxF (fun t=>t.pc !=0) 0 xs),[]⟩:=by
 unfold maxLen at hx
 rw [Xa]
 refine go ?_
 refine (Xb (fun e k=>e.set 8 (.int .i64 (k:Int))) (fun h _=>h) (fun k=>some ⟨.int .i64 (idxF (fun t=>t.pc !=0) k (xs.drop k)),[]⟩) xs.length (by show _<18446744073709551616;omega) rfl ?_).trans rfl
 intro k f hk IH
 by_cases hlt:k<xs.length
 ·have e1:=Xf (f:=thA) hlt
  have e2:=Xg k
  have r1:=Xe (f:=thA) hlt
  have hw:=Xv (k:=k) (by omega)
  rw [Xq hlt]
  by_cases hv:(fun t=>t.pc !=0) (xs.getD k default)=true
  ·have hi:idxF (fun t=>t.pc !=0) k (xs.getD k default::xs.drop (k+1))=(k:Int):=if_pos hv
   rw [hi]
   have fq1:=@Xf7
   refine go ?_
   clear fq1
   try with_reducible rfl
  ·have hv':(fun t=>t.pc !=0) (xs.getD k default)=false:=by simpa using hv
   have hi:idxF (fun t=>t.pc !=0) k (xs.getD k default::xs.drop (k+1))=idxF (fun t=>t.pc !=0) (k+1) (xs.drop (k+1)):=if_neg hv
   rw [hi]
   have fq1:=@Xf7
   refine go ?_
   clear fq1
   try with_reducible rfl
   exact IH hlt _ _ (by rw [hw];rfl) rfl
 ·have e1:=Xh (f:=thA) (Nat.le_of_not_lt hlt)
  rw [List.drop_eq_nil_of_le (by omega)]
  refine go ?_
  try with_reducible rfl
  rfl
theorem X64 {n:Nat} {xs:List Th} (hx:xs.length≤maxLen):callP cfg (n+3) 175 [thsA xs,.fn 284 []]=some ⟨.bool (xs.any (fun t=>t.pc !=0)),[]⟩:=by
 rw [Xa]
 have fq1:=fun {n:Nat}=>X5w (n:=n) hx
 refine go ?_
 clear fq1
 try with_reducible rfl
 rw [←V5 _ _ 0]
theorem Xi7 {n:Nat} {s:Sta} (hs:s.ths.length≤maxLen):callP cfg (n+4) 215 [.agg (staA s)]=some ⟨.bool (!s.ths.any fun t=>t.pc !=0),[]⟩:=by
 rw [Xa]
 have fq1:=fun {n:Nat}=>X64 (n:=n) hs
 refine go ?_
 clear fq1
 try with_reducible rfl
 all_goals rfl
set_option maxHeartbeats 4000000 in
theorem Xn5 {n:Nat} {m:Mac} (M:MI m):callP cfg (n+15) 149 [.agg (macA m)]=some ⟨.bool (Xg2 m),[]⟩:=by
 rw [Xa]
 have hpn:=M.pn
 have hnl:=M.nl
 have hq:m.s.ths.length≤maxLen:=by have:=hpn;have:=M.si.cv.lt;have:=M.pl;unfold maxLen;omega
 by_cases hb:quB m=true
 ·have hqb:(!m.s.ths.any fun t=>t.pc !=0)=true:=hb
  have hQ:=fun {n:Nat}=>Xi7 (n:=n) (s:=m.s) hq
  rw [hqb] at hQ
  have fq12:=@hQ
  unfold Xg2
  rw [hb,Bool.true_and]
  have fq1:=fun {n:Nat}=>W9 (n:=n) M
  refine go ?_
  clear fq1
  refine (Xb (fun e k=>e.set 17 (.int .i64 (k:Int))) (fun h _=>h) (fun k=>some ⟨.bool (((List.range m.progs.length).drop k).all (nxE m)),[]⟩) m.progs.length (by show _<18446744073709551616;omega) rfl ?_).trans (okB (by rw [List.drop_zero]))
  intro k f hk IH
  by_cases hlt:k<m.progs.length
  ·have e1:=Xf (f:=Xp) hlt
   have e2:=Xg k
   have r1:=Xe (f:=Xp) hlt
   have e3:decide ((k:Int)<((m.next.map iA).length:Int))=true:=Xf (by omega)
   have r2:(m.next.map iA)[k]?=some (iA (m.next.getD k default)):=Xe (by omega)
   have hw:=Xv (k:=k) (by omega)
   rw [Vt hlt,List.all_cons]
   by_cases hv:m.next.getD k default<((m.progs.getD k default).length:Int)
   ·have hx:nxE m k=false:=by unfold nxE;rw [decide_eq_true hv];rfl
    have b1:decide (m.next.getD k default<(((m.progs.getD k default).map opA).length:Int))=true:=by rw [List.length_map];exact decide_eq_true hv
    rw [hx]
    refine go ?_
    try with_reducible rfl
    all_goals rfl
   ·have hx:nxE m k=true:=by unfold nxE;rw [decide_eq_false hv];rfl
    have b1:decide (m.next.getD k default<(((m.progs.getD k default).map opA).length:Int))=false:=by rw [List.length_map];exact decide_eq_false hv
    rw [hx,Bool.true_and]
    refine go ?_
    try with_reducible rfl
    exact IH hlt _ _ (by rw [hw];rfl) rfl
  ·have e1:=Xh (f:=Xp) (Nat.le_of_not_lt hlt)
   rw [List.drop_eq_nil_of_le (by rw [List.length_range];omega)]
   refine go ?_
   try with_reducible rfl
   all_goals rfl
 ·replace hb:quB m=false:=by simpa using hb
  have hqb:(!m.s.ths.any fun t=>t.pc !=0)=false:=hb
  have hQ:=fun {n:Nat}=>Xi7 (n:=n) (s:=m.s) hq
  rw [hqb] at hQ
  have fq12:=@hQ
  unfold Xg2
  rw [hb,Bool.false_and]
  have fq1:=fun {n:Nat}=>W9 (n:=n) M
  refine go ?_
  clear fq1
  try with_reducible rfl
  all_goals rfl
set_option maxHeartbeats 4000000 in
theorem Xnh {n:Nat} {s:Sta} (hr:s.room) (hi:s.i64) (hs:staB s=true):callP cfg (n+7) 214 [.agg (staA s)]=some ⟨.bool (!s.ths.any fun t=>t.pc !=0),[]⟩:=by
 rw [Xa]
 have hl:=hr.2.2.1
 refine go ?_
 refine (Xb (fun e k=>e.set 3 (.int .i64 (k:Int))) (fun h _=>h) (fun k=>some ⟨.bool (!(s.ths.drop k).any fun t=>t.pc !=0),[]⟩) s.ths.length (by show _<18446744073709551616;omega) rfl ?_).trans (okB (by rw [List.drop_zero]))
 intro k f hk IH
 by_cases hlt:k<s.ths.length
 ·have e1:=Xf (f:=thA) hlt
  have e2:=Xg k
  have r1:=Xe (f:=thA) hlt
  have hw:=Xv (k:=k) (by omega)
  rw [Xq hlt,List.any_cons]
  by_cases hv:(s.ths.getD k default).pc=0
  ·have b1:((s.ths.getD k default).pc !=0)=false:=Yb hv
   rw [b1,Bool.false_or]
   refine go ?_
   try with_reducible rfl
   exact IH hlt _ _ (by rw [hw];rfl) rfl
  ·have b1:((s.ths.getD k default).pc !=0)=true:=Zn hv
   rw [b1,Bool.true_or]
   refine go ?_
   try with_reducible rfl
   all_goals rfl
 ·have e1:=Xh (f:=thA) (Nat.le_of_not_lt hlt)
  have hI:=fun {n:Nat}=>Xr (n:=n) hr hi
  rw [hs] at hI
  have fq12:=@hI
  rw [List.drop_eq_nil_of_le (by omega)]
  refine go ?_
  try with_reducible rfl
  all_goals rfl
set_option maxHeartbeats 4000000 in
theorem Xn6 {n:Nat} {m:Mac} (M:MI m):callP cfg (n+8) 148 [.agg (macA m)]=some ⟨.bool (Xg2 m),[]⟩:=by
 rw [Xa]
 have hpn:=M.pn
 have hnl:=M.nl
 have hr:=M.room
 have hi:=M.i64
 have hst:=M.sta
 unfold Xg2
 rw [Bool.and_comm]
 refine go ?_
 refine (Xb (fun e k=>e.set 3 (.int .i64 (k:Int))) (fun h _=>h) (fun k=>some ⟨.bool (((List.range m.progs.length).drop k).all (nxE m)&&quB m),[]⟩) m.progs.length (by show _<18446744073709551616;omega) rfl ?_).trans (okB (by rw [List.drop_zero]))
 intro k f hk IH
 by_cases hlt:k<m.progs.length
 ·have e1:=Xf (f:=Xp) hlt
  have e2:=Xg k
  have r1:=Xe (f:=Xp) hlt
  have e3:decide ((k:Int)<((m.next.map iA).length:Int))=true:=Xf (by omega)
  have r2:(m.next.map iA)[k]?=some (iA (m.next.getD k default)):=Xe (by omega)
  have hw:=Xv (k:=k) (by omega)
  rw [Vt hlt,List.all_cons]
  by_cases hv:m.next.getD k default<((m.progs.getD k default).length:Int)
  ·have hx:nxE m k=false:=by unfold nxE;rw [decide_eq_true hv];rfl
   have b1:decide (m.next.getD k default<(((m.progs.getD k default).map opA).length:Int))=true:=by rw [List.length_map];exact decide_eq_true hv
   rw [hx,Bool.false_and,Bool.false_and]
   refine go ?_
   try with_reducible rfl
   all_goals rfl
  ·have hx:nxE m k=true:=by unfold nxE;rw [decide_eq_false hv];rfl
   have b1:decide (m.next.getD k default<(((m.progs.getD k default).map opA).length:Int))=false:=by rw [List.length_map];exact decide_eq_false hv
   rw [hx,Bool.true_and]
   refine go ?_
   try with_reducible rfl
   exact IH hlt _ _ (by rw [hw];rfl) rfl
 ·have e1:=Xh (f:=Xp) (Nat.le_of_not_lt hlt)
  have e3:decide ((k:Int)<((m.next.map iA).length:Int))=false:=Xh (by omega)
  rw [List.drop_eq_nil_of_le (by rw [List.length_range];omega),List.all_nil,Bool.true_and]
  have fq1:=fun {n:Nat}=>U2 (n:=n) M
  have fq2:=fun {n:Nat}=>Xnh (n:=n) hr hi hst
  refine go ?_
  clear fq1 fq2
  try with_reducible rfl
  all_goals rfl
def frV:Nat→Nat→Mac→Mac
 | 0,_,m=>m
 | q+1,i,m=>if Xg2 m=true then m else frV q (i+1) (doPk m (i:Int))
theorem X0z {c:Cf} {ps:List (List Op3)}:∀ {q i:Nat} {m:Mac} {t:Int},On c ps t m→i+q≤9000→On c ps (t+(q:Int)) (frV q i m)
 | 0,i,m,t,O,_=>by simpa [frV] using O
 | q+1,i,m,t,O,h=>by
   unfold frV
   split
   ·exact ⟨O.mi,O.pr,O.cf,by have:=O.tm;omega⟩
   ·have:=X0z (q:=q) (i:=i+1) (O.step (pk:=(i:Int)) ⟨by omega,by omega⟩) (by omega)
    rw [show t+((q+1:Nat):Int)=t+1+(q:Int) by omega]
    exact this
set_option maxHeartbeats 4000000 in
theorem Xni {n:Nat} {c:Cf} {ps:List (List Op3)} {m:Mac} (O:On c ps 400 m):callP cfg (n+61) 88 [.agg (macA m),.int .i64 4000]=some ⟨.agg (macA (frV 4000 0 m)),[]⟩:=by
 rw [Xa]
 have hmr:m.room:=O.mi.mroom
 have fq1:=fun {n:Nat}=>Z1 (n:=n) hmr
 refine goD ?_
 clear fq1
 refine (X9 (fun e (y:Nat×Mac)=>e.set 6 (.int .i64 (y.1:Int))) (fun h y=>h.set 4 (some ⟨false,false,true,17,[[.int .i64 y.2.s.c.th,.int .i64 y.2.s.c.keys,.int .i64 y.2.s.c.cap,.int .i64 y.2.s.c.b,.int .i64 y.2.s.c.p,.int .i64 y.2.s.c.cm,Xl y.2.s.cells,Xl y.2.s.gens,thsA y.2.s.ths,.int .i64 y.2.s.steps,.int .i64 y.2.s.changes,.int .i64 y.2.s.retries,.int .i64 y.2.s.faults,Yt y.2.progs,Xl y.2.next,evsA y.2.evs,.int .i64 y.2.time]]⟩)) (fun y=>some ⟨.agg (macA (frV (4000 - y.1) y.1 y.2)),[]⟩) (fun y=>y.1≤4000∧On c ps (400+(y.1:Int)) y.2) (fun y=>4000 - y.1) (0,m) rfl ⟨Nat.zero_le _,by simpa using O⟩ (by show _ - _<18446744073709551616;omega) ?_).trans rfl
 rintro ⟨i,mm⟩ f ⟨hi,O1⟩ IH
 simp only at hi O1 ⊢
 have M1:=O1.mi
 by_cases hlt:i<4000
 ·have b1:decide ((i:Int)<(if false=true then max (4000:Int) 4000 else min (4000:Int) 4000))=true:=decide_eq_true (by rw [if_neg (by simp)];omega)
  have hw:=Xv (k:=i) (by omega)
  obtain ⟨q,hq⟩:∃ q,4000 - i=q+1:=⟨4000 - i - 1,by omega⟩
  rw [hq,frV]
  have hD:=fun {n:Nat}=>Xn5 (n:=n) M1
  by_cases hd:Xg2 mm=true
  ·rw [hd] at hD
   have fq12:=@hD
   rw [if_pos hd]
   have fq1:=fun {n:Nat}=>W9 (n:=n) M1
   refine go ?_
   clear fq1
   try with_reducible rfl
   all_goals rfl
  ·rw [if_neg hd]
   replace hd:Xg2 mm=false:=by simpa using hd
   rw [hd] at hD
   have fq12:=@hD
   have hpk:0≤(i:Int)∧(i:Int)≤9000:=⟨by omega,by omega⟩
   obtain ⟨q1,q2⟩:=Xhl O1 hpk
   have hPk:∀ {n:Nat},callP cfg (n+60) 50 [.agg (macA mm),.int .i64 (i:Int)]=some ⟨.tup [.agg (macA (doPk mm (i:Int))),.bool (canV mm (pkN mm (i:Int)))],[]⟩:=fun {n}=>Xf5 (n:=n) O1.mi q1 hpk q2
   have fq11:=@hPk
   have fq1:=fun {n:Nat}=>W9 (n:=n) M1
   refine go ?_
   clear fq1
   try with_reducible rfl
   refine (IH (i+1,doPk mm (i:Int)) _ _ ⟨hlt,by have:=O1.step hpk;rw [show 400+((i+1:Nat):Int)=400+(i:Int)+1 by omega];exact this⟩ (by show 4000 - (i+1)<4000 - i;omega) (by rw [hw];rfl) rfl).trans ?_
   dsimp only
   rw [show 4000 - (i+1)=q by omega]
 ·have b1:decide ((i:Int)<(if false=true then max (4000:Int) 4000 else min (4000:Int) 4000))=false:=decide_eq_false (by rw [if_neg (by simp)];omega)
  rw [show 4000 - i=0 by omega,frV]
  refine go ?_
  try with_reducible rfl
  all_goals rfl
set_option maxHeartbeats 4000000 in
theorem Xnj {n:Nat} {c:Cf} {ps:List (List Op3)} {m:Mac} (O:On c ps 400 m):callP cfg (n+68) 87 [.agg (macA m),.int .i64 4000]=some ⟨.agg (macA (frV 4000 0 m)),[]⟩:=by
 rw [Xa]
 have hmr:m.room:=O.mi.mroom
 have fq1:=fun {n:Nat}=>Xf6 (n:=n) hmr
 refine goD ?_
 clear fq1
 refine (X9 (fun e (y:Nat×Mac)=>e.set 6 (.int .i64 (y.1:Int))) (fun h y=>h.set 4 (some ⟨false,false,true,17,[[.int .i64 y.2.s.c.th,.int .i64 y.2.s.c.keys,.int .i64 y.2.s.c.cap,.int .i64 y.2.s.c.b,.int .i64 y.2.s.c.p,.int .i64 y.2.s.c.cm,Xl y.2.s.cells,Xl y.2.s.gens,thsA y.2.s.ths,.int .i64 y.2.s.steps,.int .i64 y.2.s.changes,.int .i64 y.2.s.retries,.int .i64 y.2.s.faults,Yt y.2.progs,Xl y.2.next,evsA y.2.evs,.int .i64 y.2.time]]⟩)) (fun y=>some ⟨.agg (macA (frV (4000 - y.1) y.1 y.2)),[]⟩) (fun y=>y.1≤4000∧On c ps (400+(y.1:Int)) y.2) (fun y=>4000 - y.1) (0,m) rfl ⟨Nat.zero_le _,by simpa using O⟩ (by show _ - _<18446744073709551616;omega) ?_).trans rfl
 rintro ⟨i,mm⟩ f ⟨hi,O1⟩ IH
 simp only at hi O1 ⊢
 have M1:=O1.mi
 have htm:=O1.tm
 have hpn:=O1.pn
 have hnl:=O1.mi.nl
 have e4:decide (mm.time<1000000)=true:=decide_eq_true (by omega)
 by_cases hlt:i<4000
 ·have b1:decide ((i:Int)<4000)=true:=decide_eq_true (by omega)
  have hw:=Xv (k:=i) (by omega)
  have hz:decide (((mm.next.map iA).length:Int)=0)=false:=decide_eq_false (by rw [List.length_map];omega)
  obtain ⟨q,hq⟩:∃ q,4000 - i=q+1:=⟨4000 - i - 1,by omega⟩
  rw [hq,frV]
  have hD:=fun {n:Nat}=>Xn6 (n:=n) M1
  by_cases hd:Xg2 mm=true
  ·rw [hd] at hD
   have fq12:=@hD
   rw [if_pos hd]
   have fq1:=fun {n:Nat}=>U2 (n:=n) M1
   refine goD ?_
   clear fq1
   try with_reducible rfl
   all_goals rfl
  ·rw [if_neg hd]
   replace hd:Xg2 mm=false:=by simpa using hd
   rw [hd] at hD
   have fq12:=@hD
   have hpk:0≤(i:Int)∧(i:Int)≤9000:=⟨by omega,by omega⟩
   obtain ⟨q1,q2⟩:=Xhl O1 hpk
   have hPk:∀ {n:Nat},callP cfg (n+67) 89 [.pv (macA mm),.int .i64 ((i:Int).tmod ((mm.next.map iA).length:Int))]=some ⟨.bool (canV mm (pkN mm (i:Int))),macA (doPk mm (i:Int))⟩:=fun {n}=>by
    rw [Int.tmod_eq_emod_of_nonneg hpk.1,List.length_map,hnl,q2]
    exact Xcw (n:=n) O1.mi q1 (by omega)
   have fq11:=@hPk
   have fq1:=fun {n:Nat}=>U2 (n:=n) M1
   refine goD ?_
   clear fq1
   try with_reducible rfl
   refine (IH (i+1,doPk mm (i:Int)) _ _ ⟨hlt,by have:=O1.step hpk;rw [show 400+((i+1:Nat):Int)=400+(i:Int)+1 by omega];exact this⟩ (by show 4000 - (i+1)<4000 - i;omega) (by rw [hw];rfl) rfl).trans ?_
   dsimp only
   rw [show 4000 - (i+1)=q by omega]
 ·have b1:decide ((i:Int)<4000)=false:=decide_eq_false (by omega)
  rw [show 4000 - i=0 by omega,frV]
  refine go ?_
  try with_reducible rfl
  all_goals rfl
noncomputable def fsV (x:Scr):Mac:=frV 4000 0 (rsV x)
theorem On.up {c:Cf} {ps:List (List Op3)} {k k2:Int} {m:Mac} (O:On c ps k m) (h:k≤k2):On c ps k2 m:=⟨O.mi,O.pr,O.cf,Int.le_trans O.tm h⟩
theorem X00 {x:Scr} (hs:scrB x=true):On x.c x.ps 4400 (fsV x):=by
 have hl:=Xep hs
 have:=X0z (q:=4000) (i:=0) ((Xng hs).up (k2:=400) (by omega)) (by omega)
 exact this
set_option maxHeartbeats 4000000 in
theorem Xgo {n:Nat} {x:Scr} (hx:x.room):callP cfg (n+63) 25 [.agg (scrA x)]=some ⟨.tup [.agg (if scrB x=true then macA (fsV x) else macA mac0),.bool (scrB x)],[]⟩:=by
 rw [Xa]
 have hR:=fun {n:Nat}=>Xd4 (n:=n) hx
 by_cases hs:scrB x=true
 ·rw [if_pos hs,hs]
  rw [if_pos hs,hs] at hR
  have fq12:=@hR
  have hl:=Xep hs
  have O:=(Xng hs).up (k2:=400) (by omega)
  have fq1:=fun {n:Nat}=>Xni (n:=n) O
  refine go ?_
  clear fq1
  try with_reducible rfl
  all_goals rfl
 ·replace hs:scrB x=false:=by simpa using hs
  rw [if_neg (by rw [hs];simp),hs]
  rw [if_neg (by rw [hs];simp),hs] at hR
  have fq12:=@hR
  refine go ?_
  try with_reducible rfl
  all_goals rfl
set_option maxHeartbeats 4000000 in
theorem Xgp {n:Nat} {x:Scr} (hx:x.room):callP cfg (n+70) 24 [.agg (scrA x)]=some ⟨.tup [.agg (if scrB x=true then macA (fsV x) else macA mac0),.bool (scrB x)],[]⟩:=by
 rw [Xa]
 have hR:=fun {n:Nat}=>Xd5 (n:=n) hx
 by_cases hs:scrB x=true
 ·rw [if_pos hs,hs]
  rw [if_pos hs,hs] at hR
  have fq12:=@hR
  have hl:=Xep hs
  have O:=(Xng hs).up (k2:=400) (by omega)
  have fq1:=fun {n:Nat}=>Xnj (n:=n) O
  refine go ?_
  clear fq1
  try with_reducible rfl
  all_goals rfl
 ·replace hs:scrB x=false:=by simpa using hs
  rw [if_neg (by rw [hs];simp),hs]
  rw [if_neg (by rw [hs];simp),hs] at hR
  have fq12:=@hR
  refine go ?_
  try with_reducible rfl
  all_goals rfl
end Go.Proofs.YtbploohjimpcaaaGreat.A
