/- What the program's functions answer (Gu): no condition. -/
import Derived.Test.YtbploohjimpcaaaGreatGq
import Derived.Test.YtbploohjimpcaaaGreatGs
import Derived.Test.YtbploohjimpcaaaGreatGr
import Derived.Test.YtbploohjimpcaaaGreatGe
set_option linter.unusedVariables false
set_option linter.unusedSimpArgs false
namespace Go.Proofs.YtbploohjimpcaaaGreat.A
open Go Go.Abs
set_option maxRecDepth 100000
structure Scr where
 c:Cf
 ps:List (List Op3)
 picks:List Int
 deriving Inhabited
abbrev scrA (x:Scr):List AV:=[.int .i64 x.c.th,.int .i64 x.c.keys,.int .i64 x.c.cap,.int .i64 x.c.b,.int .i64 x.c.p,.int .i64 x.c.cm,Yt x.ps,Xl x.picks]
def scrB (x:Scr):Bool:=Vv x.c x.ps&&(decide (x.picks.length≤400)&&x.picks.all fun n=>inB n 0 9)
def Scr.room (x:Scr):Prop:=x.ps.length≤1048576∧(∀ l∈x.ps,l.length≤1048576)∧x.picks.length≤1048576
theorem Xdb {n:Nat} {k:Int}:callP cfg (n+2) 139 [.int .i64 k]=some ⟨.bool (!inB k 0 9),[]⟩:=by
 rw [Xa]
 have fq1:=@X1
 refine go ?_
 clear fq1
 try with_reducible rfl
 all_goals rfl
theorem X5s {n:Nat} {xs:List Int} (hx:xs.length≤maxLen):callP cfg (n+3) 207 [Xl xs,.fn 139 []]=some ⟨.int .i64 (idxF (fun n=>!inB n 0 9) 0 xs),[]⟩:=by
 unfold maxLen at hx
 rw [Xa]
 refine go ?_
 refine (Xb (fun e k=>e.set 8 (.int .i64 (k:Int))) (fun h _=>h) (fun k=>some ⟨.int .i64 (idxF (fun n=>!inB n 0 9) k (xs.drop k)),[]⟩) xs.length (by show _<18446744073709551616;omega) rfl ?_).trans rfl
 intro k f hk IH
 by_cases hlt:k<xs.length
 ·have e1:=Xf (f:=iA) hlt
  have e2:=Xg k
  have r1:=Xe (f:=iA) hlt
  have hw:=Xv (k:=k) (by omega)
  rw [Xq hlt]
  by_cases hv:(fun n=>!inB n 0 9) (xs.getD k default)=true
  ·have hi:idxF (fun n=>!inB n 0 9) k (xs.getD k default::xs.drop (k+1))=(k:Int):=if_pos hv
   rw [hi]
   have fq1:=@Xdb
   refine go ?_
   clear fq1
   try with_reducible rfl
  ·have hv':(fun n=>!inB n 0 9) (xs.getD k default)=false:=by simpa using hv
   have hi:idxF (fun n=>!inB n 0 9) k (xs.getD k default::xs.drop (k+1))=idxF (fun n=>!inB n 0 9) (k+1) (xs.drop (k+1)):=if_neg hv
   rw [hi]
   have fq1:=@Xdb
   refine go ?_
   clear fq1
   try with_reducible rfl
   exact IH hlt _ _ (by rw [hw];rfl) rfl
 ·have e1:=Xh (f:=iA) (Nat.le_of_not_lt hlt)
  rw [List.drop_eq_nil_of_le (by omega)]
  refine go ?_
  try with_reducible rfl
  rfl
theorem X61 {n:Nat} {xs:List Int} (hx:xs.length≤maxLen):callP cfg (n+4) 138 [Xl xs,.fn 139 []]=some ⟨.bool (xs.any (fun n=>!inB n 0 9)),[]⟩:=by
 rw [Xa]
 have fq1:=fun {n:Nat}=>X5s (n:=n) hx
 refine go ?_
 clear fq1
 try with_reducible rfl
 rw [←V5 _ _ 0]
theorem Vk {n:Nat} {x:Scr} (hx:x.room):callP cfg (n+9) 72 [.agg (scrA x)]=some ⟨.bool (scrB x),[]⟩:=by
 rw [Xa]
 obtain ⟨h1,h2,h3⟩:=hx
 have hx2:x.picks.length≤maxLen:=by unfold maxLen;omega
 unfold scrB
 by_cases a1:Vv x.c x.ps=true
 ·rw [a1,Bool.true_and]
  by_cases a2:x.picks.length≤400
  ·have b2:decide (((x.picks.map iA).length:Int)≤400)=true:=decide_eq_true (by rw [List.length_map];omega)
   rw [decide_eq_true a2,Bool.true_and,←Xkx]
   have fq1:=fun {n:Nat} {c:Cf}=>Vd (n:=n) (c:=c) h1 h2
   have fq2:=fun {n:Nat}=>X61 (n:=n) hx2
   refine go ?_
   clear fq1 fq2
   try with_reducible rfl
   all_goals rfl
  ·have b2:decide (((x.picks.map iA).length:Int)≤400)=false:=decide_eq_false (by rw [List.length_map];omega)
   rw [decide_eq_false a2,Bool.false_and]
   have fq1:=fun {n:Nat} {c:Cf}=>Vd (n:=n) (c:=c) h1 h2
   refine go ?_
   clear fq1
   try with_reducible rfl
   all_goals rfl
 ·replace a1:Vv x.c x.ps=false:=by simpa using a1
  rw [a1,Bool.false_and]
  have fq1:=fun {n:Nat} {c:Cf}=>Vd (n:=n) (c:=c) h1 h2
  refine go ?_
  clear fq1
  try with_reducible rfl
  all_goals rfl
set_option maxHeartbeats 4000000 in
theorem Ws {n:Nat} {x:Scr} (hx:x.room):callP cfg (n+4) 47 [.agg (scrA x)]=some ⟨.bool (scrB x),[]⟩:=by
 rw [Xa]
 obtain ⟨h1,h2,h3⟩:=hx
 unfold scrB Vv eqI
 by_cases a0:Yp x.c=true
 ·rw [a0,Bool.true_and]
  by_cases a1:(x.ps.length:Int)=x.c.th
  ·have b1:(((x.ps.map Xp).length:Int) !=x.c.th)=false:=Yb (by rw [List.length_map];exact a1)
   rw [decide_eq_true a1,Bool.true_and]
   by_cases a2:x.picks.length≤400
   ·have b2:decide (((x.picks.map iA).length:Int)>400)=false:=decide_eq_false (by rw [List.length_map];omega)
    rw [decide_eq_true a2,Bool.true_and]
    have fq1:=@X0
    refine go ?_
    clear fq1
    refine (Xb (fun e k=>e.set 3 (.int .i64 (k:Int))) (fun h _=>h) (fun k=>some ⟨.bool ((x.ps.drop k).all Vz&&x.picks.all fun n=>inB n 0 9),[]⟩) x.ps.length (by show _<18446744073709551616;omega) rfl ?_).trans rfl
    intro k f hk IH
    by_cases hlt:k<x.ps.length
    ·have e1:=Xf (f:=Xp) hlt
     have e2:=Xg k
     have r1:=Xe (f:=Xp) hlt
     have hw:=Xv (k:=k) (by omega)
     have hm:=h2 _ (Xi hlt)
     rw [Xq hlt,List.all_cons]
     by_cases hv:Vz (x.ps.getD k default)=true
     ·rw [hv,Bool.true_and]
      have fq1:=fun {n:Nat}=>Vr (n:=n) hm
      refine go ?_
      clear fq1
      try with_reducible rfl
      exact IH hlt _ _ (by rw [hw];rfl) rfl
     ·replace hv:Vz (x.ps.getD k default)=false:=by simpa only [Bool.not_eq_true] using hv
      rw [hv,Bool.false_and,Bool.false_and]
      have fq1:=fun {n:Nat}=>Vr (n:=n) hm
      refine go ?_
      clear fq1
      try with_reducible rfl
      all_goals rfl
    ·have e1:=Xh (f:=Xp) (Nat.le_of_not_lt hlt)
     rw [List.drop_eq_nil_of_le (by omega),show (([]:List (List Op3)).all Vz)=true from rfl,Bool.true_and]
     refine go ?_
     refine (Xb (fun e k=>e.set 4 (.int .i64 (k:Int))) (fun h _=>h) (fun k=>some ⟨.bool ((x.picks.drop k).all fun n=>inB n 0 9),[]⟩) x.picks.length (by show _<18446744073709551616;omega) rfl ?_).trans rfl
     intro k f hk IH
     by_cases hlt:k<x.picks.length
     ·have e1:=Xf (f:=iA) hlt
      have e2:=Xg k
      have r1:=Xe (f:=iA) hlt
      have hw:=Xv (k:=k) (by omega)
      rw [Xq hlt,List.all_cons]
      by_cases hv:inB (x.picks.getD k default) 0 9=true
      ·rw [hv,Bool.true_and]
       have fq1:=@Xk
       refine go ?_
       clear fq1
       try with_reducible rfl
       exact IH hlt _ _ (by rw [hw];rfl) rfl
      ·replace hv:inB (x.picks.getD k default) 0 9=false:=by simpa only [Bool.not_eq_true] using hv
       rw [hv,Bool.false_and]
       have fq1:=@Xk
       refine go ?_
       clear fq1
       try with_reducible rfl
       all_goals rfl
     ·have e1:=Xh (f:=iA) (Nat.le_of_not_lt hlt)
      rw [List.drop_eq_nil_of_le (by omega)]
      refine go ?_
      try with_reducible rfl
      all_goals rfl
   ·have b2:decide (((x.picks.map iA).length:Int)>400)=true:=decide_eq_true (by rw [List.length_map];omega)
    rw [decide_eq_false a2,Bool.false_and,Bool.and_false]
    have fq1:=@X0
    refine go ?_
    clear fq1
    try with_reducible rfl
    all_goals rfl
  ·have b1:(((x.ps.map Xp).length:Int) !=x.c.th)=true:=Zn (by rw [List.length_map];exact a1)
   rw [decide_eq_false a1,Bool.false_and,Bool.false_and]
   have fq1:=@X0
   refine go ?_
   clear fq1
   try with_reducible rfl
   all_goals rfl
 ·replace a0:Yp x.c=false:=by simpa using a0
  rw [a0,Bool.false_and,Bool.false_and]
  have fq1:=@X0
  refine go ?_
  clear fq1
  try with_reducible rfl
  all_goals rfl
def pkN (m:Mac) (pk:Int):Nat:=(pk % (m.progs.length:Int)).toNat
def doPk (m:Mac) (pk:Int):Mac:=if canV m (pkN m pk)=true then Um m (pkN m pk) else m
theorem Xs1 {m:Mac} {p:Nat}:(Um m p).progs=m.progs:=by unfold Um;split <;> rfl
theorem Xup {m:Mac} {p:Nat}:(Um m p).time=m.time+1:=by unfold Um;split <;> rfl
structure On (c:Cf) (ps:List (List Op3)) (k:Int) (m:Mac):Prop where
 mi:MI m
 pr:m.progs=ps
 cf:m.s.c=c
 tm:m.time≤k
theorem On.pn {c:Cf} {ps:List (List Op3)} {k:Int} {m:Mac} (O:On c ps k m):1≤m.progs.length∧m.progs.length≤4∧m.s.ths.length=m.progs.length:=by
 have hb:=Xm O.mi.si.cv.cf
 have:=O.mi.pn;have:=O.mi.si.cv.lt
 omega
theorem Xhl {c:Cf} {ps:List (List Op3)} {k pk:Int} {m:Mac} (O:On c ps k m) (hp:0≤pk∧pk≤9000):pkN m pk<m.s.ths.length∧pk % (m.progs.length:Int)=((pkN m pk:Nat):Int):=by
 have h:=O.pn
 have h1:0≤pk % (m.progs.length:Int):=Int.emod_nonneg _ (by omega)
 have h2:pk % (m.progs.length:Int)<(m.progs.length:Int):=Int.emod_lt_of_pos _ (by omega)
 unfold pkN
 constructor <;> omega
theorem X28 {m:Mac} {p:Nat} (M:MI m) (hp:p<m.s.ths.length):(Um m p).s.c=m.s.c:=by
 unfold Um
 split
 ·rename_i h
  exact (Xct M.si hp M.ns h).len.2
 ·rfl
theorem On.step {c:Cf} {ps:List (List Op3)} {k pk:Int} {m:Mac} (O:On c ps k m) (hp:0≤pk∧pk≤9000):On c ps (k+1) (doPk m pk):=by
 obtain ⟨h1,h2⟩:=Xhl O hp
 have:=O.tm
 unfold doPk
 split
 ·rename_i hc
  exact ⟨O.mi.pick h1 hc,Xs1.trans O.pr,(X28 O.mi h1).trans O.cf,by rw [Xup];omega⟩
 ·exact ⟨O.mi,O.pr,O.cf,by omega⟩
theorem On.new {c:Cf} {ps:List (List Op3)} (hc:Vv c ps=true):On c ps 0 (Uf c ps):=⟨X0o hc,rfl,rfl,by unfold Uf;exact Int.le_refl _⟩
theorem Xqw {x:Scr} (hs:scrB x=true) {k:Nat} (h:k<x.picks.length):0≤x.picks.getD k default∧x.picks.getD k default≤9000:=by
 unfold scrB at hs
 simp only [Bool.and_eq_true,List.all_eq_true] at hs
 have:=hs.2.2 _ (Xi h)
 unfold inB at this
 have h2:=this
 simp only [Bool.and_eq_true,decide_eq_true_eq] at h2
 exact ⟨h2.1,by omega⟩
theorem Xkf {x:Scr} (hs:scrB x=true):Vv x.c x.ps=true:=by
 unfold scrB at hs
 simp only [Bool.and_eq_true] at hs
 exact hs.1
theorem Xep {x:Scr} (hs:scrB x=true):x.picks.length≤400:=by
 unfold scrB at hs
 simp only [Bool.and_eq_true,decide_eq_true_eq] at hs
 exact hs.2.1
def refE (e:Ev):Bool:=decide (e.en≠-1)&&decide (e.res.c>1)
def refC (l:List Ev):Int:=((l.filter refE).length:Int)
def szPL (b:Int):List (List Op3)→Int
 | []=>b
 | l::ls=>if sz1 b l.length<0 then -1 else szPL (sz1 b l.length) ls
def szPs (xs:List (List Op3)) (b:Int):Int:=if b - (xs.length:Int)<0 then -1 else szPL (b - xs.length) xs
def szSc (x:Scr) (b:Int):Int:=if szPs x.ps b<0 then -1 else sz1 (szPs x.ps b) x.picks.length
theorem Xwh:∀ (l:List (List Op3)) {b:Int},b≤1048576→szPL b l≤1048576
 | [],b,h=>h
 | t::l,b,h=>by
   unfold szPL;split
   ·omega
   ·exact Xwh l (Xub h)
theorem Xwi {l:List (List Op3)} {b:Int} (h:b≤1048576):szPs l b≤1048576:=by
 unfold szPs;split
 ·omega
 ·exact Xwh _ (by omega)
theorem Xs2 {b:Int} {n:Nat} (h:0≤sz1 b n):(n:Int)≤b:=by
 unfold sz1 at h;split at h <;> omega
theorem Xpk:∀ (l:List (List Op3)) {b:Int},0≤szPL b l→b≤1048576→∀ t∈l,t.length≤1048576
 | [],b,h,hb,t,ht=>by cases ht
 | a::l,b,h,hb,t,ht=>by
   unfold szPL at h
   split at h
   ·omega
   ·rename_i h1
    have h2:=Xs2 (b:=b) (n:=a.length) (by omega)
    rcases List.mem_cons.1 ht with rfl | ht
    ·omega
    ·exact Xpk l h (Xub hb) t ht
theorem Xd3 {x:Scr} (h:¬szSc x 1048576<0):x.room:=by
 unfold szSc at h
 split at h
 ·omega
 ·rename_i h1
  have h2:=Xs2 (b:=szPs x.ps 1048576) (n:=x.picks.length) (by omega)
  have h3:=Xwi (l:=x.ps) (b:=1048576) (by omega)
  unfold szPs at h1
  split at h1
  ·omega
  ·exact ⟨by omega,Xpk _ (b:=1048576 - (x.ps.length:Int)) (by omega) (by omega),by omega⟩
def Scr.len (x:Scr):Prop:=x.ps.length≤maxLen∧(∀ l∈x.ps,l.length≤maxLen)∧x.picks.length≤maxLen
theorem Scr.len_of {x:Scr} (h:x.room):x.len:=⟨by have:=h.1;unfold maxLen;omega,fun l hl=>by have:=h.2.1 l hl;unfold maxLen;omega,by have:=h.2.2;unfold maxLen;omega⟩
instance:DecidableEq Scr:=fun a b=>decidable_of_iff (a.c=b.c∧a.ps=b.ps∧a.picks=b.picks) ⟨fun h=>by cases a;cases b;simp_all,fun h=>by rw [h];exact ⟨rfl,rfl,rfl⟩⟩
theorem Xiz {n:Nat} {xs:List Op3} {b:Int} (hx:xs.length≤maxLen) (h0:0≤b) (h1:b≤1048576):callP cfg (n+1) 92 [opsA xs,.int .i64 b]=some ⟨.int .i64 (sz1 b xs.length),[]⟩:=by
 rw [Xa]
 unfold maxLen at hx
 have hw:IntKind.i64.wrap (b - ((xs.map opA).length:Int))=b - xs.length:=by
  rw [List.length_map];exact Xc (by omega) (by omega)
 unfold sz1
 by_cases hb:b - (xs.length:Int)<0
 ·rw [if_pos hb]
  have e0:decide (IntKind.i64.wrap (b - ((xs.map opA).length:Int))<0)=true:=by rw [hw];simpa using hb
  refine go ?_
  try with_reducible rfl
 ·rw [if_neg hb]
  have e0:decide (IntKind.i64.wrap (b - ((xs.map opA).length:Int))<0)=false:=by rw [hw];simpa using hb
  refine go ?_
  try with_reducible rfl
  rw [hw]
theorem Xdl {n:Nat} {xs:List (List Op3)} {b:Int} (hx:xs.length≤maxLen) (hxs:∀ l∈xs,l.length≤maxLen) (h0:0≤b) (h1:b≤1048576):callP cfg (n+2) 36 [Yt xs,.int .i64 b]=some ⟨.int .i64 (szPs xs b),[]⟩:=by
 rw [Xa]
 unfold maxLen at hx
 have hw:IntKind.i64.wrap (b - ((xs.map Xp).length:Int))=b - xs.length:=by
  rw [List.length_map];exact Xc (by omega) (by omega)
 unfold szPs
 by_cases hb:b - (xs.length:Int)<0
 ·rw [if_pos hb]
  have e0:decide (IntKind.i64.wrap (b - ((xs.map Xp).length:Int))<0)=true:=by rw [hw];simpa using hb
  refine go ?_
  try with_reducible rfl
 ·rw [if_neg hb]
  have e0:decide (IntKind.i64.wrap (b - ((xs.map Xp).length:Int))<0)=false:=by rw [hw];simpa using hb
  refine go ?_
  conv=>lhs;whnf
  rw [hw]
  refine (X9 (fun e (x:Nat×Int)=>(e.set 5 (.int .i64 (x.1:Int))).set 1 (.int .i64 x.2)) (fun h _=>h) (fun x=>some ⟨.int .i64 (szPL x.2 (xs.drop x.1)),[]⟩) (fun x=>x.1≤xs.length∧0≤x.2∧x.2≤1048576) (fun x=>xs.length - x.1) (0,b - xs.length) rfl ⟨Nat.zero_le _,by omega,by omega⟩ (by show _ - _<18446744073709551616;omega) ?_).trans rfl
  rintro ⟨k,b⟩ f ⟨hk,h0,h1⟩ IH
  simp only at hk h0 h1 ⊢
  by_cases hlt:k<xs.length
  ·have e1:=Xf (f:=Xp) hlt
   have e2:=Xg k
   have r1:=Xe (f:=Xp) hlt
   have hw:=Xv (k:=k) (by omega)
   have hm:=hxs _ (Xi hlt)
   rw [Xq hlt,szPL]
   by_cases hv:sz1 b (xs.getD k default).length<0
   ·have e4:decide (sz1 b (xs.getD k default).length<0)=true:=by simpa using hv
    rw [if_pos hv]
    have fq1:=fun {n:Nat}=>Xiz (n:=n) hm h0 h1
    refine go ?_
    clear fq1
    try with_reducible rfl
   ·have e4:decide (sz1 b (xs.getD k default).length<0)=false:=by simpa using hv
    have h2:sz1 b (xs.getD k default).length≤1048576:=Xub h1
    rw [if_neg hv]
    have fq1:=fun {n:Nat}=>Xiz (n:=n) hm h0 h1
    refine go ?_
    clear fq1
    try with_reducible rfl
    exact IH (k+1,sz1 b (xs.getD k default).length) _ _ ⟨hlt,by omega,h2⟩ (by show _ - _<_ - _;omega) (by rw [hw];rfl) rfl
  ·have e1:=Xh (f:=Xp) (Nat.le_of_not_lt hlt)
   rw [List.drop_eq_nil_of_le (by omega)]
   refine go ?_
   try with_reducible rfl
   rfl
theorem Zf {n:Nat} {x:Scr} {b:Int} (hx:x.len) (h0:0≤b) (hb:b≤1048576):callP cfg (n+3) 15 [.agg (scrA x),.int .i64 b]=some ⟨.int .i64 (szSc x b),[]⟩:=by
 rw [Xa]
 obtain ⟨l0,l1,l2⟩:=hx
 unfold szSc
 by_cases c0:szPs x.ps b<0
 ·rw [if_pos c0]
  have d0:decide (szPs x.ps b<0)=true:=by simpa using c0
  have fq1:=fun {n:Nat}=>Xdl (n:=n) l0 l1 h0 hb
  refine go ?_
  clear fq1
  try with_reducible rfl
 ·rw [if_neg c0]
  have d0:decide (szPs x.ps b<0)=false:=by simpa using c0
  have p0:szPs x.ps b≤1048576:=Xwi hb
  have q0:0≤szPs x.ps b:=by omega
  by_cases c1:sz1 (szPs x.ps b) x.picks.length<0
  ·have d1:decide (sz1 (szPs x.ps b) x.picks.length<0)=true:=by simpa using c1
   have fq1:=fun {n:Nat}=>Xdl (n:=n) l0 l1 h0 hb
   have fq2:=fun {n:Nat}=>Xgy (n:=n) l2 q0 p0
   refine go ?_
   clear fq1 fq2
   try with_reducible rfl
   refine okI ?_
   unfold sz1 at c1 ⊢
   split at c1 <;> split <;> omega
  ·have d1:decide (sz1 (szPs x.ps b) x.picks.length<0)=false:=by simpa using c1
   have fq1:=fun {n:Nat}=>Xdl (n:=n) l0 l1 h0 hb
   have fq2:=fun {n:Nat}=>Xgy (n:=n) l2 q0 p0
   refine go ?_
   clear fq1 fq2
   try with_reducible rfl
theorem Xi0 {n:Nat} {xs ys:List Op3} (hx:xs.length≤maxLen):callP cfg (n+2) 98 [opsA xs,opsA ys]=some ⟨.bool (decide (xs=ys)),[]⟩:=by
 rw [Xa]
 unfold maxLen at hx
 by_cases hl:xs.length=ys.length
 ·have e0:(((xs.map opA).length:Int) !=((ys.map opA).length:Int))=false:=by simp [hl]
  refine go ?_
  refine (Xb (fun e k=>e.set 5 (.int .i64 (k:Int))) (fun h _=>h) (fun k=>some ⟨.bool (decide (xs.drop k=ys.drop k)),[]⟩) xs.length (by show _<18446744073709551616;omega) rfl ?_).trans (by simp)
  intro k f hk IH
  by_cases hlt:k<xs.length
  ·have e1:=Xf (f:=opA) hlt
   have e2:=Xg k
   have e3:=Xf (f:=opA) (xs:=ys) (k:=k) (by omega)
   have r1:=Xe (f:=opA) hlt
   have r2:=Xe (l:=ys) (f:=opA) (i:=k) (by omega)
   have hw:=Xv (k:=k) (by omega)
   by_cases hv:xs.getD k default=ys.getD k default
   ·have e4:(!decide (xs.getD k default=ys.getD k default))=false:=by rw [hv];simp
    have fq1:=@Xc2
    refine go ?_
    clear fq1
    try with_reducible rfl
    refine (IH hlt _ _ (by rw [hw];rfl) rfl).trans ?_
    rw [Xq hlt,Xq (l:=ys) (by omega:k<ys.length),hv]
    simp
   ·have e4:(!decide (xs.getD k default=ys.getD k default))=true:=by simpa using hv
    have fq1:=@Xc2
    refine go ?_
    clear fq1
    try with_reducible rfl
    rw [Xq hlt,Xq (l:=ys) (by omega:k<ys.length)]
    simp
    exact fun h=>absurd h hv
  ·have e1:=Xh (f:=opA) (Nat.le_of_not_lt hlt)
   refine go ?_
   try with_reducible rfl
   rw [List.drop_eq_nil_of_le (by omega),List.drop_eq_nil_of_le (by omega)]
   simp
 ·have e0:(((xs.map opA).length:Int) !=((ys.map opA).length:Int))=true:=Zn (by simp only [List.length_map];omega)
  refine go ?_
  try with_reducible rfl
  have:¬xs=ys:=fun e=>hl (by rw [e])
  simp [this]
theorem Xg1 {n:Nat} {xs ys:List (List Op3)} (hx:xs.length≤maxLen) (hxs:∀ l∈xs,l.length≤maxLen):callP cfg (n+3) 42 [Yt xs,Yt ys]=some ⟨.bool (decide (xs=ys)),[]⟩:=by
 rw [Xa]
 unfold maxLen at hx
 by_cases hl:xs.length=ys.length
 ·have e0:(((xs.map Xp).length:Int) !=((ys.map Xp).length:Int))=false:=by simp [hl]
  refine go ?_
  refine (Xb (fun e k=>e.set 5 (.int .i64 (k:Int))) (fun h _=>h) (fun k=>some ⟨.bool (decide (xs.drop k=ys.drop k)),[]⟩) xs.length (by show _<18446744073709551616;omega) rfl ?_).trans (by simp)
  intro k f hk IH
  by_cases hlt:k<xs.length
  ·have e1:=Xf (f:=Xp) hlt
   have e2:=Xg k
   have e3:=Xf (f:=Xp) (xs:=ys) (k:=k) (by omega)
   have r1:=Xe (f:=Xp) hlt
   have r2:=Xe (l:=ys) (f:=Xp) (i:=k) (by omega)
   have hw:=Xv (k:=k) (by omega)
   have hm:=hxs _ (Xi hlt)
   by_cases hv:xs.getD k default=ys.getD k default
   ·have e4:(!decide (xs.getD k default=ys.getD k default))=false:=by rw [hv];simp
    have fq1:=fun {n:Nat} {ys:List Op3}=>Xi0 (n:=n) (ys:=ys) hm
    refine go ?_
    clear fq1
    try with_reducible rfl
    refine (IH hlt _ _ (by rw [hw];rfl) rfl).trans ?_
    rw [Xq hlt,Xq (l:=ys) (by omega:k<ys.length),hv]
    simp
   ·have e4:(!decide (xs.getD k default=ys.getD k default))=true:=by simpa using hv
    have fq1:=fun {n:Nat} {ys:List Op3}=>Xi0 (n:=n) (ys:=ys) hm
    refine go ?_
    clear fq1
    try with_reducible rfl
    rw [Xq hlt,Xq (l:=ys) (by omega:k<ys.length)]
    simp
    exact fun h=>absurd h hv
  ·have e1:=Xh (f:=Xp) (Nat.le_of_not_lt hlt)
   refine go ?_
   try with_reducible rfl
   rw [List.drop_eq_nil_of_le (by omega),List.drop_eq_nil_of_le (by omega)]
   simp
 ·have e0:(((xs.map Xp).length:Int) !=((ys.map Xp).length:Int))=true:=Zn (by simp only [List.length_map];omega)
  refine go ?_
  try with_reducible rfl
  have:¬xs=ys:=fun e=>hl (by rw [e])
  simp [this]
theorem Xqx {n:Nat} {xs:List Op3} (hx:xs.length*24≤140737488355328):callP cfg (n+2) 95 [opsA xs]=some ⟨opsA xs,[]⟩:=by
 rw [Xa]
 have e0:decide (((((xs.map opA).length:Int)).toNat*ty74.bytes≤Yf))=true:=decide_eq_true (by simp only [List.length_map,Int.toNat_natCast];exact hx)
 have e1:decide ((0:Int)≤((xs.map opA).length:Int))=true:=decide_eq_true (by omega)
 have e2:decide (((xs.map opA).length:Int)≤((xs.map opA).length:Int))=true:=decide_eq_true (by omega)
 refine go ?_
 try with_reducible rfl
 rw [Xhh (f:=opA) (z:=ty74.zero) (xs:=xs) (by simp)]
 refine (Xb (fun e k=>e.set 4 (.int .i64 (k:Int))) (fun h k=>h.set 2 (some ⟨false,false,false,3,Qn opA ty74.zero xs k⟩)) (fun k=>some ⟨opsA xs,[]⟩) xs.length (by show _<18446744073709551616;omega) rfl ?_).trans rfl
 intro k f hk IH
 by_cases hlt:k<xs.length
 ·have e1:=Xf (f:=opA) hlt
  have e2:=Xg k
  have e3:decide ((k:Int)<((Qn opA ty74.zero xs k).length:Int))=true:=decide_eq_true (by rw [Xb5 hk];omega)
  have hL:k<(Qn opA ty74.zero xs k).length:=by rw [Xb5 hk];exact hlt
  have r1:=Xe (f:=opA) hlt
  have r2:=Xjy (f:=opA) (z:=ty74.zero) hlt
  have hw:=Xv (k:=k) (by omega)
  have st1:=r2
  have fq1:=@Xsl
  refine go ?_
  clear st1 fq1
  try with_reducible rfl
  refine IH hlt _ _ (by rw [hw];rfl) (by rw [←Xjz hlt];rfl)
 ·have e1:=Xh (f:=opA) (Nat.le_of_not_lt hlt)
  obtain rfl:k=xs.length:=by omega
  rw [Xj0]
  refine go ?_
  try with_reducible rfl
theorem Xn3 {n:Nat} {xs:List (List Op3)} (hx:xs.length*24≤140737488355328) (hxs:∀ l∈xs,l.length*24≤140737488355328):callP cfg (n+3) 39 [Yt xs]=some ⟨Yt xs,[]⟩:=by
 rw [Xa]
 have e0:decide (((((xs.map Xp).length:Int)).toNat*ty108.bytes≤Yf))=true:=decide_eq_true (by simp only [List.length_map,Int.toNat_natCast];exact hx)
 have e1:decide ((0:Int)≤((xs.map Xp).length:Int))=true:=decide_eq_true (by omega)
 have e2:decide (((xs.map Xp).length:Int)≤((xs.map Xp).length:Int))=true:=decide_eq_true (by omega)
 refine go ?_
 try with_reducible rfl
 rw [Xhh (f:=Xp) (z:=ty108.zero) (xs:=xs) (by simp)]
 refine (Xb (fun e k=>e.set 4 (.int .i64 (k:Int))) (fun h k=>h.set 2 (some ⟨false,false,false,1,Qn Xp ty108.zero xs k⟩)) (fun k=>some ⟨Yt xs,[]⟩) xs.length (by show _<18446744073709551616;omega) rfl ?_).trans rfl
 intro k f hk IH
 by_cases hlt:k<xs.length
 ·have e1:=Xf (f:=Xp) hlt
  have e2:=Xg k
  have e3:decide ((k:Int)<((Qn Xp ty108.zero xs k).length:Int))=true:=decide_eq_true (by rw [Xb5 hk];omega)
  have hL:k<(Qn Xp ty108.zero xs k).length:=by rw [Xb5 hk];exact hlt
  have r1:=Xe (f:=Xp) hlt
  have r2:=Xjy (f:=Xp) (z:=ty108.zero) hlt
  have hw:=Xv (k:=k) (by omega)
  have hm:=hxs _ (Xi hlt)
  have st1:=r2
  have fq1:=fun {n:Nat}=>Xqx (n:=n) hm
  refine go ?_
  clear st1 fq1
  try with_reducible rfl
  refine IH hlt _ _ (by rw [hw];rfl) (by rw [←Xjz hlt];rfl)
 ·have e1:=Xh (f:=Xp) (Nat.le_of_not_lt hlt)
  obtain rfl:k=xs.length:=by omega
  rw [Xj0]
  refine go ?_
  try with_reducible rfl
theorem Z0 {n:Nat} {x:Scr} (hx:x.room):callP cfg (n+4) 17 [.agg (scrA x)]=some ⟨.agg (scrA x),[]⟩:=by
 rw [Xa]
 obtain ⟨h1,h2,h3⟩:=hx
 have g1:x.ps.length*24≤140737488355328:=by omega
 have g2:∀ l∈x.ps,l.length*24≤140737488355328:=fun l hl=>by have:=h2 l hl;omega
 have g3:x.picks.length*8≤140737488355328:=by omega
 have fq1:=@Xk1
 have fq2:=fun {n:Nat}=>Xn3 (n:=n) g1 g2
 have fq3:=fun {n:Nat}=>Xnr (n:=n) g3
 refine go ?_
 clear fq1 fq2 fq3
 try with_reducible rfl
theorem Vl {n:Nat} {a b:Scr} (ha:a.len):callP cfg (n+4) 20 [.agg (scrA a),.agg (scrA b)]=some ⟨.bool (decide (a=b)),[]⟩:=by
 rw [Xa]
 obtain ⟨h1,h2,h3⟩:=ha
 have fq1:=@Xes
 have fq2:=fun {n:Nat} {ys:List (List Op3)}=>Xg1 (n:=n) (ys:=ys) h1 h2
 have fq3:=fun {n:Nat} {ys:List Int}=>Vs (n:=n) (ys:=ys) h3
 refine goS ?_
 clear fq1 fq2 fq3
 repeat' (refine Y9 (fun _=>?_) (fun _=>?_))
 all_goals (conv=>lhs;whnf)
 all_goals (refine okB ?_;obtain ⟨⟨_,_,_,_,_,_⟩,_,_⟩:=a;obtain ⟨⟨_,_,_,_,_,_⟩,_,_⟩:=b;simp_all <;> (intros;simp_all))
theorem Xa1 {n:Nat} {a1 a2 a3 a4 a5 a6:Int}:callP cfg (n+1) 28 [.agg [.int .i64 a1,.int .i64 a2,.int .i64 a3,.int .i64 a4,.int .i64 a5,.int .i64 a6],.agg [.int .i64 a1,.int .i64 a2,.int .i64 a3,.int .i64 a4,.int .i64 a5,.int .i64 a6]]=some ⟨.bool true,[]⟩:=by
 rw [Xa]
 have hb:∀ a:Int,(a !=a)=false:=fun a=>Yb rfl
 have b1:=hb a1
 have b2:=hb a2
 have b3:=hb a3
 have b4:=hb a4
 have b5:=hb a5
 have b6:=hb a6
 refine go ?_
 try with_reducible rfl
 all_goals rfl
abbrev rowS (x:Scr) (ps:List (List Op3)) (pk:List Int):List AV:=[.int .i64 x.c.th,.int .i64 x.c.keys,.int .i64 x.c.cap,.int .i64 x.c.b,.int .i64 x.c.p,.int .i64 x.c.cm,.lst 1 (ps.map Xp),.lst 1 (pk.map iA)]
theorem Xkg {l:List Op3} {j:Nat} {o:Op3}:Xp (l.set j o)=[.lst 3 ((l.map opA).set j (opA o))]:=by simp only [Xp,opsA,List.map_set]
theorem Xuq {l:List (List Op3)} {i:Nat} {p:List Op3}:(l.set i p).map Xp=(l.map Xp).set i (Xp p):=by rw [List.map_set]
theorem Xb7 {l:List (List Op3)} {i:Nat} {t:List Op3} (h:i<l.length):(l.set i t).getD i default=t:=by simp [List.getD_eq_getElem?_getD,h]
theorem X0x {l:List (List Op3)} {i:Nat} {t:List Op3} (h:∀ p∈l,p.length≤1048576) (ht:t.length≤1048576):∀ p∈l.set i t,p.length≤1048576:=fun p hp=>by
 rcases List.mem_or_eq_of_mem_set hp with h1 | h1
 ·exact h p h1
 ·rw [h1];exact ht
theorem Xi1 {α:Type} {f:α→List AV} {Q:α→Prop}:∀ {rows:List (List AV)},(∀ row∈rows,∃ x,row=f x∧Q x)→∃ xs:List α,rows=xs.map f∧∀ x∈xs,Q x
 | [],_=>⟨[],rfl,fun x h=>by cases h⟩
 | row::rows,h=>by
   obtain ⟨x,hx,hQ⟩:=h row (List.mem_cons_self ..)
   obtain ⟨xs,hxs,hQs⟩:=Xi1 (rows:=rows) fun r hr=>h r (List.mem_cons_of_mem _ hr)
   refine ⟨x::xs,by rw [hx,hxs];rfl,fun y hy=>?_⟩
   rcases List.mem_cons.1 hy with rfl | hy
   ·exact hQ
   ·exact hQs y hy
theorem tyInt {n:Nat} {avs:List AV} (h:Ty tys (n+1) 3 avs):∃ i:Int,avs=iA i∧I64 i:=by
 obtain ⟨a,rfl,h1,h2⟩:=h
 exact ⟨a,rfl,h1,h2⟩
theorem X5t {n:Nat} {avs:List AV} (h:Ty tys (n+2) 25 avs):∃ xs:List Int,avs=[Xl xs]∧xs.length≤maxLen∧∀ x∈xs,I64 x:=by
 obtain ⟨rows,rfl,hl,hr⟩:=h
 obtain ⟨xs,rfl,hQ⟩:=Xi1 fun row hrow=>tyInt (hr row hrow)
 exact ⟨xs,rfl,by simpa using hl,hQ⟩
theorem tyOp {n:Nat} {avs:List AV} (h:Ty tys (n+2) 149 avs):∃ o:Op3,avs=opA o:=by
 obtain ⟨_,_,rfl,⟨a,rfl,_⟩,_,_,rfl,⟨b,rfl,_⟩,_,_,rfl,⟨c,rfl,_⟩,rfl⟩:=h
 exact ⟨⟨a,b,c⟩,rfl⟩
theorem tyCf {n:Nat} {avs:List AV} (h:Ty tys (n+2) 23 avs):∃ c:Cf,avs=cfA c:=by
 obtain ⟨_,_,rfl,⟨a,rfl,_⟩,_,_,rfl,⟨b,rfl,_⟩,_,_,rfl,⟨c,rfl,_⟩,_,_,rfl,⟨d,rfl,_⟩,_,_,rfl,⟨e,rfl,_⟩,_,_,rfl,⟨f,rfl,_⟩,rfl⟩:=h
 exact ⟨⟨a,b,c,d,e,f⟩,rfl⟩
theorem X62 {n:Nat} {avs:List AV} (h:Ty tys (n+3) 104 avs):∃ xs:List Op3,avs=[opsA xs]∧xs.length≤maxLen:=by
 obtain ⟨rows,rfl,hl,hr⟩:=h
 obtain ⟨xs,rfl,_⟩:=Xi1 (Q:=fun _=>True) fun row hrow=>by obtain ⟨o,h⟩:=tyOp (hr row hrow);exact ⟨o,h,trivial⟩
 exact ⟨xs,rfl,by simpa using hl⟩
theorem X5u {n:Nat} {avs:List AV} (h:Ty tys (n+4) 24 avs):∃ xs:List (List Op3),avs=[Yt xs]∧xs.length≤maxLen∧∀ l∈xs,l.length≤maxLen:=by
 obtain ⟨rows,rfl,hl,hr⟩:=h
 obtain ⟨xs,rfl,hQ⟩:=Xi1 (f:=Xp) fun row hrow=>X62 (hr row hrow)
 exact ⟨xs,rfl,by simpa using hl,hQ⟩
theorem tyScr {n:Nat} {avs:List AV} (h:Ty tys (n+5) 27 avs):∃ x:Scr,avs=scrA x∧x.len:=by
 obtain ⟨_,_,rfl,h1,_,_,rfl,h2,_,_,rfl,h3,rfl⟩:=h
 obtain ⟨c,rfl⟩:=tyCf h1
 obtain ⟨x2,rfl,l2,q2⟩:=X5u h2
 obtain ⟨x3,rfl,l3,_⟩:=X5t h3
 exact ⟨⟨c,x2,x3⟩,rfl,l2,q2,l3⟩
end Go.Proofs.YtbploohjimpcaaaGreat.A
