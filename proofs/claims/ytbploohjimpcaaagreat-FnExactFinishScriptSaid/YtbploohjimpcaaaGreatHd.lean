/- What the program's functions answer (Hd): no condition. -/
import Derived.Test.YtbploohjimpcaaaGreatGu
import Derived.Test.YtbploohjimpcaaaGreatHb
import Derived.Test.YtbploohjimpcaaaGreatGp
import Derived.Test.YtbploohjimpcaaaGreatGq
set_option linter.unusedVariables false
set_option linter.unusedSimpArgs false
namespace Go.Proofs.YtbploohjimpcaaaGreat.A
open Go Go.Abs
set_option maxRecDepth 100000
theorem bneS (a:Int):(a !=a)=false:=Yb rfl
theorem Xnk {n:Nat} {e:Ev}:callP cfg (n+2) 143 [.agg (evA e),.agg (evA e)]=some ⟨.bool true,[]⟩:=by
 rw [Xa]
 have h0:=bneS e.th
 have h1:=bneS e.st
 have h2:=bneS e.en
 have h3:=bneS e.op.k
 have h4:=bneS e.op.key
 have h5:=bneS e.op.v
 have h6:=bneS e.res.c
 have h7:=bneS e.res.v
 have hO:=fun {n:Nat}=>Xc2 (n:=n) (a:=e.op) (b:=e.op)
 rw [decide_eq_true rfl] at hO
 have fq12:=@hO
 have hR:=fun {n:Nat}=>Xet (n:=n) (a:=e.res) (b:=e.res)
 rw [decide_eq_true rfl] at hR
 have fq11:=@hR
 refine go ?_
 try with_reducible rfl
 all_goals rfl
set_option maxHeartbeats 4000000 in
theorem Xlb {n:Nat} {l:List Ev} (hl:l.length≤80):callP cfg (n+3) 77 [evsA l,evsA l]=some ⟨.bool true,[]⟩:=by
 rw [Xa]
 have b0:(((l.map evA).length:Int) !=((l.map evA).length:Int))=false:=Yb rfl
 refine go ?_
 refine (Xb (fun e k=>e.set 5 (.int .i64 (k:Int))) (fun h _=>h) (fun _=>some ⟨.bool true,[]⟩) l.length (by show _<18446744073709551616;omega) rfl ?_).trans rfl
 intro k f hk IH
 by_cases hlt:k<l.length
 ·have d1:=Xf (f:=evA) hlt
  have d2:=Xg k
  have r1:=Xe (f:=evA) hlt
  have hw:=Xv (k:=k) (by omega)
  have fq1:=@Xnk
  refine goD ?_
  clear fq1
  try with_reducible rfl
  exact IH hlt _ _ (by rw [hw];rfl) rfl
 ·have d1:=Xh (f:=evA) (Nat.le_of_not_lt hlt)
  refine go ?_
  try with_reducible rfl
  all_goals rfl
set_option maxHeartbeats 4000000 in
theorem Va {n:Nat} {m:Mac} (h1:m.s.len) (h2:m.progs.length≤maxLen) (h3:∀ l∈m.progs,l.length≤maxLen) (h4:m.next.length≤maxLen) (h5:m.evs.length≤80):callP cfg (n+6) 19 [.agg (macA m),.agg (macA m)]=some ⟨.bool true,[]⟩:=by
 rw [Xa]
 have hA:=fun {n:Nat}=>Xm1 (n:=n) (a:=m.s) (b:=m.s) h1
 have hB:=fun {n:Nat}=>Xg1 (n:=n) (xs:=m.progs) (ys:=m.progs) h2 h3
 have hC:=fun {n:Nat}=>Vs (n:=n) (xs:=m.next) (ys:=m.next) h4
 rw [decide_eq_true rfl] at hA hB hC
 have fq12:=@hA
 have fq13:=@hB
 have fq14:=@hC
 have b0:=bneS m.time
 have fq1:=fun {n:Nat}=>Xlb (n:=n) h5
 refine go ?_
 clear fq1
 try with_reducible rfl
 all_goals rfl
@[irreducible] def kS (K c:Int) (j:Nat):Int:=K+c*(j:Int)
theorem Xky {K c:Int} {j:Nat}:kS K c j=K+c*(j:Int):=by unfold kS;rfl
theorem kS_zero {K c:Int}:kS K c 0=K:=by rw [Xky];simp
theorem kS_succ {K c:Int} {j:Nat}:kS K c (j+1)=kS K c j+c:=by rw [Xky,Xky,show ((j+1:Nat):Int)=(j:Int)+1 by omega,Int.mul_add];omega
theorem kS_w {K c:Int} {j:Nat} (h0:0≤K) (h1:K≤1125899906842624) (c0:0≤c) (c1:c≤8) (hj:j≤1048576):0≤kS K c j∧kS K c j≤K+8388608:=by
 rw [Xky]
 have h2:0≤c*(j:Int):=Int.mul_nonneg c0 (by omega)
 have h3:c*(j:Int)≤8*1048576:=Int.le_trans (Int.mul_le_mul_of_nonneg_right c1 (by omega)) (Int.mul_le_mul_of_nonneg_left (by omega) (by decide))
 omega
def mkI (K:Int) (n:Nat):List Int:=(List.range n).map fun j=>kS K 1 j
def mkE (K:Int) (n:Nat):List Ent:=(List.range n).map fun j=>⟨kS K 4 j,kS K 4 j+1,kS K 4 j+2,kS K 4 j+3⟩
def mkO (K:Int) (n:Nat):List Op3:=(List.range n).map fun j=>⟨kS K 3 j,kS K 3 j+1,kS K 3 j+2⟩
def mkV (K:Int) (n:Nat):List Ev:=(List.range n).map fun j=>⟨kS K 8 j,⟨kS K 8 j+1,kS K 8 j+2,kS K 8 j+3⟩,⟨kS K 8 j+4,kS K 8 j+5⟩,kS K 8 j+6,kS K 8 j+7⟩
theorem Uo {K:Int} {n:Nat}:(mkI K n).length=n:=by simp [mkI]
theorem Xgj {K:Int} {n:Nat}:(mkE K n).length=n:=by simp [mkE]
theorem Xlq {K:Int} {n:Nat}:(mkO K n).length=n:=by simp [mkO]
theorem Xlr {K:Int} {n:Nat}:(mkV K n).length=n:=by simp [mkV]
theorem U3 {K:Int} {n j:Nat} (h:j<n):(mkI K n)[j]?=some (kS K 1 j):=by simp [mkI,h]
theorem Xi8 {K:Int} {n j:Nat} (h:j<n):(mkE K n)[j]?=some ⟨kS K 4 j,kS K 4 j+1,kS K 4 j+2,kS K 4 j+3⟩:=by simp [mkE,h]
theorem Xq2 {K:Int} {n j:Nat} (h:j<n):(mkO K n)[j]?=some ⟨kS K 3 j,kS K 3 j+1,kS K 3 j+2⟩:=by simp [mkO,h]
theorem Xq3 {K:Int} {n j:Nat} (h:j<n):(mkV K n)[j]?=some ⟨kS K 8 j,⟨kS K 8 j+1,kS K 8 j+2,kS K 8 j+3⟩,⟨kS K 8 j+4,kS K 8 j+5⟩,kS K 8 j+6,kS K 8 j+7⟩:=by simp [mkV,h]
abbrev qa (k:Int) (t:Th):Int:=kS k 1 t.found.length
abbrev qb (k:Int) (t:Th):Int:=kS (qa k t) 1 t.free.length
abbrev qc (k:Int) (t:Th):Int:=kS (qb k t) 4 t.buf.length
abbrev qd (k:Int) (t:Th):Int:=kS (qc k t) 4 t.work.length
abbrev kTh (k:Int) (t:Th):Int:=kS (qd (k+14) t) 1 t.limbo.length
def kT0 (K:Int) (l:List Th):Nat→Int
 | 0=>K
 | i+1=>kTh (kT0 K l i) (l.getD i default)
def kO0 (K:Int) (l:List (List Op3)):Nat→Int
 | 0=>K
 | i+1=>kS (kO0 K l i) 3 (l.getD i default).length
@[irreducible] def kT (K:Int) (l:List Th) (i:Nat):Int:=kT0 K l i
@[irreducible] def kO (K:Int) (l:List (List Op3)) (i:Nat):Int:=kO0 K l i
theorem kT_zero {K:Int} {l:List Th}:kT K l 0=K:=by unfold kT;rfl
theorem kT_succ {K:Int} {l:List Th} {i:Nat}:kT K l (i+1)=kTh (kT K l i) (l.getD i default):=by unfold kT;rfl
theorem kO_zero {K:Int} {l:List (List Op3)}:kO K l 0=K:=by unfold kO;rfl
theorem kO_succ {K:Int} {l:List (List Op3)} {i:Nat}:kO K l (i+1)=kS (kO K l i) 3 (l.getD i default).length:=by unfold kO;rfl
def mkT (k:Int) (t:Th):Th:=⟨k,⟨k+1,k+2,k+3⟩,⟨k+4,k+5⟩,k+6,k+7,k+8,k+9,k+10,k+11,k+12,k+13,mkI (k+14) t.found.length,mkI (qa (k+14) t) t.free.length,mkE (qb (k+14) t) t.buf.length,mkE (qc (k+14) t) t.work.length,mkI (qd (k+14) t) t.limbo.length⟩
def mkTs (K:Int) (l:List Th):List Th:=(List.range l.length).map fun i=>mkT (kT K l i) (l.getD i default)
def mkOs (K:Int) (l:List (List Op3)):List (List Op3):=(List.range l.length).map fun i=>mkO (kO K l i) (l.getD i default).length
theorem Xi9 {K:Int} {l:List Th}:(mkTs K l).length=l.length:=by simp [mkTs]
theorem Xja {K:Int} {l:List (List Op3)}:(mkOs K l).length=l.length:=by simp [mkOs]
theorem Xnl {K:Int} {l:List Th} {i:Nat} (h:i<l.length):(mkTs K l)[i]?=some (mkT (kT K l i) (l.getD i default)):=by simp [mkTs,h]
theorem Xnm {K:Int} {l:List (List Op3)} {i:Nat} (h:i<l.length):(mkOs K l)[i]?=some (mkO (kO K l i) (l.getD i default).length):=by simp [mkOs,h]
theorem Xkh {α:Type} {f:α→List AV} {l:List α} {i:Nat} {y:α} (h:l[i]?=some y):(l.map f)[i]?=some (f y):=by rw [List.getElem?_map,h];rfl
theorem Xs4 {α:Type} [Inhabited α] {f:α→List AV} {ys xs:List α} {k:Nat} (h:ys.length=xs.length) (hk:k<xs.length):((mix ys xs k).map f).set k (f (xs.getD k default))=(mix ys xs k).map f:=Xzs (Zv h hk)
abbrev rowT (k:Int) (fo fr bu wo li:AV):List AV:=[.int .i64 k,.int .i64 (k+1),.int .i64 (k+2),.int .i64 (k+3),.int .i64 (k+4),.int .i64 (k+5),.int .i64 (k+6),.int .i64 (k+7),.int .i64 (k+8),.int .i64 (k+9),.int .i64 (k+10),.int .i64 (k+11),.int .i64 (k+12),.int .i64 (k+13),fo,fr,bu,wo,li]
theorem w14 {k:Int} (h0:0≤k) (h1:k≤18014398509481984):IntKind.i64.wrap (k+1)=k+1∧IntKind.i64.wrap (k+1+1)=k+2∧IntKind.i64.wrap (k+2+1)=k+3∧IntKind.i64.wrap (k+3+1)=k+4∧IntKind.i64.wrap (k+4+1)=k+5∧IntKind.i64.wrap (k+5+1)=k+6∧IntKind.i64.wrap (k+6+1)=k+7∧IntKind.i64.wrap (k+7+1)=k+8∧IntKind.i64.wrap (k+8+1)=k+9∧IntKind.i64.wrap (k+9+1)=k+10∧IntKind.i64.wrap (k+10+1)=k+11∧IntKind.i64.wrap (k+11+1)=k+12∧IntKind.i64.wrap (k+12+1)=k+13∧IntKind.i64.wrap (k+13+1)=k+14:=by
 refine ⟨?_,?_,?_,?_,?_,?_,?_,?_,?_,?_,?_,?_,?_,?_⟩ <;> (rw [Xc (by omega) (by omega)];first | done | omega)
abbrev wq (k:Int):Int:=IntKind.i64.wrap (k+1)
abbrev wz (k:Int):Int:=wq (wq (wq (wq (wq (wq (wq (wq (wq (wq (wq (wq (wq (wq k)))))))))))))
abbrev rowW (k:Int) (fo fr bu wo li:AV):List AV:=[.int .i64 k,.int .i64 (wq k),.int .i64 (wq (wq k)),.int .i64 (wq (wq (wq k))),.int .i64 (wq (wq (wq (wq k)))),.int .i64 (wq (wq (wq (wq (wq k))))),.int .i64 (wq (wq (wq (wq (wq (wq k)))))),.int .i64 (wq (wq (wq (wq (wq (wq (wq k))))))),.int .i64 (wq (wq (wq (wq (wq (wq (wq (wq k)))))))),.int .i64 (wq (wq (wq (wq (wq (wq (wq (wq (wq k))))))))),.int .i64 (wq (wq (wq (wq (wq (wq (wq (wq (wq (wq k)))))))))),.int .i64 (wq (wq (wq (wq (wq (wq (wq (wq (wq (wq (wq k))))))))))),.int .i64 (wq (wq (wq (wq (wq (wq (wq (wq (wq (wq (wq (wq k)))))))))))),.int .i64 (wq (wq (wq (wq (wq (wq (wq (wq (wq (wq (wq (wq (wq k))))))))))))),fo,fr,bu,wo,li]
theorem wz_eq {k:Int} (h0:0≤k) (h1:k≤18014398509481984):wz k=k+14:=by
 obtain ⟨w1,w2,w3,w4,w5,w6,w7,w8,w9,w10,w11,w12,w13,w14⟩:=w14 h0 h1
 unfold wz wq
 rw [w1,w2,w3,w4,w5,w6,w7,w8,w9,w10,w11,w12,w13,w14]
theorem rowW_eq {k:Int} {fo fr bu wo li:AV} (h0:0≤k) (h1:k≤18014398509481984):rowW k fo fr bu wo li=rowT k fo fr bu wo li:=by
 obtain ⟨w1,w2,w3,w4,w5,w6,w7,w8,w9,w10,w11,w12,w13,w14⟩:=w14 h0 h1
 unfold rowW rowT wq
 rw [w1,w2,w3,w4,w5,w6,w7,w8,w9,w10,w11,w12,w13]
theorem qs {k:Int} {t:Th} (h0:0≤k) (h1:k≤562949953421312) (hr:t.room):(0≤qa (k+14) t∧qa (k+14) t≤k+14+1048576)∧(0≤qb (k+14) t∧qb (k+14) t≤k+14+2097152)∧(0≤qc (k+14) t∧qc (k+14) t≤k+14+6291456)∧(0≤qd (k+14) t∧qd (k+14) t≤k+14+10485760)∧0≤kTh k t∧kTh k t≤k+16777216:=by
 obtain ⟨g1,g2,g3,g4,g5⟩:=hr
 unfold kTh qd qc qb qa
 simp only [Xky]
 omega
theorem qsW {k:Int} {t:Th} (h0:0≤k) (h1:k≤562949953421312) (hr:t.room):(0≤wz k∧wz k≤1125899906842624)∧0≤qa (wz k) t∧0≤qb (wz k) t∧0≤qc (wz k) t∧0≤qd (wz k) t∧qa (wz k) t≤1125899906842624∧qb (wz k) t≤1125899906842624∧qc (wz k) t≤1125899906842624∧qd (wz k) t≤1125899906842624:=by
 have:=qs h0 h1 hr
 rw [wz_eq h0 (by omega)]
 omega
theorem thW {k:Int} {t:Th} (h0:0≤k) (h1:k≤562949953421312):thA (mkT k t)=rowW k (.lst 1 ((mkI (wz k) t.found.length).map iA)) (.lst 1 ((mkI (qa (wz k) t) t.free.length).map iA)) (.lst 4 ((mkE (qb (wz k) t) t.buf.length).map entA)) (.lst 4 ((mkE (qc (wz k) t) t.work.length).map entA)) (.lst 1 ((mkI (qd (wz k) t) t.limbo.length).map iA)):=by
 rw [rowW_eq h0 (by omega),wz_eq h0 (by omega)]
 rfl
theorem kW {K:Int} {l:List Th} {i:Nat} (h0:0≤kT K l i) (h1:kT K l i≤562949953421312):kT K l (i+1)=kS (qd (wz (kT K l i)) (l.getD i default)) 1 (l.getD i default).limbo.length:=by
 rw [wz_eq h0 (by omega)]
 exact kT_succ
theorem Xs5 {K:Int} {l:List Th} (h0:0≤K) (h1:K≤281474976710656) (hl:l.length≤1048576) (hr:∀ t∈l,t.room):∀ {i:Nat},i≤l.length→0≤kT K l i∧kT K l i≤K+16777216*(i:Int)
 | 0,_=>by rw [kT_zero];omega
 | i+1,h=>by
   have ih:=Xs5 h0 h1 hl hr (i:=i) (Nat.le_of_lt h)
   rw [kT_succ]
   have:=(qs (k:=kT K l i) (t:=l.getD i default) ih.1 (by omega) (hr _ (Xi h))).2.2.2.2
   omega
theorem Xpl {K:Int} {l:List (List Op3)} (h0:0≤K) (hr:∀ t∈l,t.length≤1048576):∀ {i:Nat},i≤l.length→0≤kO K l i∧kO K l i≤K+3145728*(i:Int)
 | 0,_=>by rw [kO_zero];omega
 | i+1,h=>by
   have ih:=Xpl h0 hr (i:=i) (Nat.le_of_lt h)
   have:=hr _ (Xi h)
   rw [kO_succ,Xky]
   omega
set_option maxHeartbeats 4000000 in
theorem Vm {n:Nat} {K:Int} {L:Nat} (h0:0≤K) (h1:K≤1125899906842624) (hL:L≤1048576):callP cfg (n+1) 85 [.lst 1 ((mkI K L).map iA),.int .i64 K]=some ⟨.int .i64 (kS K 1 L),[]⟩:=by
 rw [Xa]
 refine go ?_
 refine (Xb (fun e j=>(e.set 5 (.int .i64 (j:Int))).set 1 (.int .i64 (kS K 1 j))) (fun h _=>h) (fun _=>some ⟨.int .i64 (kS K 1 L),[]⟩) L (by show _<18446744073709551616;omega) (by rw [kS_zero];rfl) ?_).trans rfl
 intro j f hj IH
 have hk:=kS_w (c:=1) (j:=j) h0 h1 (by decide) (by decide) (by omega)
 by_cases hlj:j<L
 ·have d1:decide ((j:Int)<(((mkI K L).map iA).length:Int))=true:=Xf (f:=iA) (by rw [Uo];exact hlj)
  have d2:=Xg j
  have r1:=Xkh (f:=iA) (U3 (K:=K) hlj)
  have hw:=Xv (k:=j) (by omega)
  have w1:IntKind.i64.wrap (kS K 1 j+1)=kS K 1 (j+1):=by rw [Xc (by omega) (by omega),kS_succ];first | done | omega
  have b0:(kS K 1 j !=kS K 1 j)=false:=Yb rfl
  refine go ?_
  try with_reducible rfl
  exact IH hlj _ _ (by rw [hw,w1];rfl) rfl
 ·have hj2:j=L:=by omega
  have d1:decide ((j:Int)<(((mkI K L).map iA).length:Int))=false:=Xh (f:=iA) (by rw [Uo];omega)
  refine go ?_
  try with_reducible rfl
  rw [hj2]
set_option maxHeartbeats 4000000 in
theorem Xdc {n:Nat} {K:Int} {L:Nat} (h0:0≤K) (h1:K≤1125899906842624) (hL:L≤1048576):callP cfg (n+1) 213 [.lst 4 ((mkE K L).map entA),.int .i64 K]=some ⟨.int .i64 (kS K 4 L),[]⟩:=by
 rw [Xa]
 refine go ?_
 refine (Xb (fun e j=>(e.set 5 (.int .i64 (j:Int))).set 1 (.int .i64 (kS K 4 j))) (fun h _=>h) (fun _=>some ⟨.int .i64 (kS K 4 L),[]⟩) L (by show _<18446744073709551616;omega) (by rw [kS_zero];rfl) ?_).trans rfl
 intro j f hj IH
 have hk:=kS_w (c:=4) (j:=j) h0 h1 (by decide) (by decide) (by omega)
 by_cases hlj:j<L
 ·have d1:decide ((j:Int)<(((mkE K L).map entA).length:Int))=true:=Xf (f:=entA) (by rw [Xgj];exact hlj)
  have d2:=Xg j
  have r1:=Xkh (f:=entA) (Xi8 (K:=K) hlj)
  have hw:=Xv (k:=j) (by omega)
  have w1:IntKind.i64.wrap (kS K 4 j+1)=kS K 4 j+1:=by rw [Xc (by omega) (by omega)];first | done | omega
  have w2:IntKind.i64.wrap (kS K 4 j+1+1)=kS K 4 j+2:=by rw [Xc (by omega) (by omega)];first | done | omega
  have w3:IntKind.i64.wrap (kS K 4 j+2+1)=kS K 4 j+3:=by rw [Xc (by omega) (by omega)];first | done | omega
  have w4:IntKind.i64.wrap (kS K 4 j+3+1)=kS K 4 (j+1):=by rw [Xc (by omega) (by omega),kS_succ];first | done | omega
  have b0:(kS K 4 j !=kS K 4 j)=false:=Yb rfl
  have b1:((kS K 4 j+1) !=(IntKind.i64.wrap (kS K 4 j+1)))=false:=Yb (by rw [w1])
  have b2:((kS K 4 j+2) !=(IntKind.i64.wrap (IntKind.i64.wrap (kS K 4 j+1)+1)))=false:=Yb (by rw [w1,w2])
  have b3:((kS K 4 j+3) !=(IntKind.i64.wrap (IntKind.i64.wrap (IntKind.i64.wrap (kS K 4 j+1)+1)+1)))=false:=Yb (by rw [w1,w2,w3])
  refine go ?_
  try with_reducible rfl
  exact IH hlj _ _ (by rw [hw,w1,w2,w3,w4];rfl) rfl
 ·have hj2:j=L:=by omega
  have d1:decide ((j:Int)<(((mkE K L).map entA).length:Int))=false:=Xh (f:=entA) (by rw [Xgj];omega)
  refine go ?_
  try with_reducible rfl
  rw [hj2]
set_option maxHeartbeats 4000000 in
theorem Xnn {n:Nat} {K:Int} {L:Nat} (h0:0≤K) (h1:K≤1125899906842624) (hL:L≤1048576):callP cfg (n+1) 147 [.lst 3 ((mkO K L).map opA),.int .i64 K]=some ⟨.int .i64 (kS K 3 L),[]⟩:=by
 rw [Xa]
 refine go ?_
 refine (Xb (fun e j=>(e.set 5 (.int .i64 (j:Int))).set 1 (.int .i64 (kS K 3 j))) (fun h _=>h) (fun _=>some ⟨.int .i64 (kS K 3 L),[]⟩) L (by show _<18446744073709551616;omega) (by rw [kS_zero];rfl) ?_).trans rfl
 intro j f hj IH
 have hk:=kS_w (c:=3) (j:=j) h0 h1 (by decide) (by decide) (by omega)
 by_cases hlj:j<L
 ·have d1:decide ((j:Int)<(((mkO K L).map opA).length:Int))=true:=Xf (f:=opA) (by rw [Xlq];exact hlj)
  have d2:=Xg j
  have r1:=Xkh (f:=opA) (Xq2 (K:=K) hlj)
  have hw:=Xv (k:=j) (by omega)
  have w1:IntKind.i64.wrap (kS K 3 j+1)=kS K 3 j+1:=by rw [Xc (by omega) (by omega)];first | done | omega
  have w2:IntKind.i64.wrap (kS K 3 j+1+1)=kS K 3 j+2:=by rw [Xc (by omega) (by omega)];first | done | omega
  have w3:IntKind.i64.wrap (kS K 3 j+2+1)=kS K 3 (j+1):=by rw [Xc (by omega) (by omega),kS_succ];first | done | omega
  have b0:(kS K 3 j !=kS K 3 j)=false:=Yb rfl
  have b1:((kS K 3 j+1) !=(IntKind.i64.wrap (kS K 3 j+1)))=false:=Yb (by rw [w1])
  have b2:((kS K 3 j+2) !=(IntKind.i64.wrap (IntKind.i64.wrap (kS K 3 j+1)+1)))=false:=Yb (by rw [w1,w2])
  refine go ?_
  try with_reducible rfl
  exact IH hlj _ _ (by rw [hw,w1,w2,w3];rfl) rfl
 ·have hj2:j=L:=by omega
  have d1:decide ((j:Int)<(((mkO K L).map opA).length:Int))=false:=Xh (f:=opA) (by rw [Xlq];omega)
  refine go ?_
  try with_reducible rfl
  rw [hj2]
set_option maxHeartbeats 4000000 in
theorem Xjb {n:Nat} {K:Int} {L:Nat} (h0:0≤K) (h1:K≤1125899906842624) (hL:L≤1048576):callP cfg (n+1) 86 [.lst 8 ((mkV K L).map evA),.int .i64 K]=some ⟨.int .i64 (kS K 8 L),[]⟩:=by
 rw [Xa]
 refine go ?_
 refine (Xb (fun e j=>(e.set 5 (.int .i64 (j:Int))).set 1 (.int .i64 (kS K 8 j))) (fun h _=>h) (fun _=>some ⟨.int .i64 (kS K 8 L),[]⟩) L (by show _<18446744073709551616;omega) (by rw [kS_zero];rfl) ?_).trans rfl
 intro j f hj IH
 have hk:=kS_w (c:=8) (j:=j) h0 h1 (by decide) (by decide) (by omega)
 by_cases hlj:j<L
 ·have d1:decide ((j:Int)<(((mkV K L).map evA).length:Int))=true:=Xf (f:=evA) (by rw [Xlr];exact hlj)
  have d2:=Xg j
  have r1:=Xkh (f:=evA) (Xq3 (K:=K) hlj)
  have hw:=Xv (k:=j) (by omega)
  have w1:IntKind.i64.wrap (kS K 8 j+1)=kS K 8 j+1:=by rw [Xc (by omega) (by omega)];first | done | omega
  have w2:IntKind.i64.wrap (kS K 8 j+1+1)=kS K 8 j+2:=by rw [Xc (by omega) (by omega)];first | done | omega
  have w3:IntKind.i64.wrap (kS K 8 j+2+1)=kS K 8 j+3:=by rw [Xc (by omega) (by omega)];first | done | omega
  have w4:IntKind.i64.wrap (kS K 8 j+3+1)=kS K 8 j+4:=by rw [Xc (by omega) (by omega)];first | done | omega
  have w5:IntKind.i64.wrap (kS K 8 j+4+1)=kS K 8 j+5:=by rw [Xc (by omega) (by omega)];first | done | omega
  have w6:IntKind.i64.wrap (kS K 8 j+5+1)=kS K 8 j+6:=by rw [Xc (by omega) (by omega)];first | done | omega
  have w7:IntKind.i64.wrap (kS K 8 j+6+1)=kS K 8 j+7:=by rw [Xc (by omega) (by omega)];first | done | omega
  have w8:IntKind.i64.wrap (kS K 8 j+7+1)=kS K 8 (j+1):=by rw [Xc (by omega) (by omega),kS_succ];first | done | omega
  have b0:(kS K 8 j !=kS K 8 j)=false:=Yb rfl
  have b1:((kS K 8 j+1) !=(IntKind.i64.wrap (kS K 8 j+1)))=false:=Yb (by rw [w1])
  have b2:((kS K 8 j+2) !=(IntKind.i64.wrap (IntKind.i64.wrap (kS K 8 j+1)+1)))=false:=Yb (by rw [w1,w2])
  have b3:((kS K 8 j+3) !=(IntKind.i64.wrap (IntKind.i64.wrap (IntKind.i64.wrap (kS K 8 j+1)+1)+1)))=false:=Yb (by rw [w1,w2,w3])
  have b4:((kS K 8 j+4) !=(IntKind.i64.wrap (IntKind.i64.wrap (IntKind.i64.wrap (IntKind.i64.wrap (kS K 8 j+1)+1)+1)+1)))=false:=Yb (by rw [w1,w2,w3,w4])
  have b5:((kS K 8 j+5) !=(IntKind.i64.wrap (IntKind.i64.wrap (IntKind.i64.wrap (IntKind.i64.wrap (IntKind.i64.wrap (kS K 8 j+1)+1)+1)+1)+1)))=false:=Yb (by rw [w1,w2,w3,w4,w5])
  have b6:((kS K 8 j+6) !=(IntKind.i64.wrap (IntKind.i64.wrap (IntKind.i64.wrap (IntKind.i64.wrap (IntKind.i64.wrap (IntKind.i64.wrap (kS K 8 j+1)+1)+1)+1)+1)+1)))=false:=Yb (by rw [w1,w2,w3,w4,w5,w6])
  have b7:((kS K 8 j+7) !=(IntKind.i64.wrap (IntKind.i64.wrap (IntKind.i64.wrap (IntKind.i64.wrap (IntKind.i64.wrap (IntKind.i64.wrap (IntKind.i64.wrap (kS K 8 j+1)+1)+1)+1)+1)+1)+1)))=false:=Yb (by rw [w1,w2,w3,w4,w5,w6,w7])
  refine go ?_
  try with_reducible rfl
  exact IH hlj _ _ (by rw [hw,w1,w2,w3,w4,w5,w6,w7,w8];rfl) rfl
 ·have hj2:j=L:=by omega
  have d1:decide ((j:Int)<(((mkV K L).map evA).length:Int))=false:=Xh (f:=evA) (by rw [Xlr];omega)
  refine go ?_
  try with_reducible rfl
  rw [hj2]
set_option maxHeartbeats 4000000 in
theorem Xlc {n:Nat} {K:Int} {l:List (List Op3)} (h0:0≤K) (h1:K≤562949953421312) (hl:l.length≤1048576) (hr:∀ t∈l,t.length≤1048576):callP cfg (n+2) 84 [Yt (mkOs K l),.int .i64 K]=some ⟨.int .i64 (kO K l l.length),[]⟩:=by
 rw [Xa]
 refine go ?_
 refine (Xb (fun e i=>(e.set 5 (.int .i64 (i:Int))).set 1 (.int .i64 (kO K l i))) (fun h _=>h) (fun _=>some ⟨.int .i64 (kO K l l.length),[]⟩) l.length (by show _<18446744073709551616;omega) (by rw [kO_zero];rfl) ?_).trans rfl
 intro i f hj IH
 have hk:=Xpl h0 hr hj
 by_cases hlj:i<l.length
 ·have d1:decide ((i:Int)<(((mkOs K l).map Xp).length:Int))=true:=Xf (f:=Xp) (by rw [Xja];exact hlj)
  have d2:=Xg i
  have r1:=Xkh (f:=Xp) (Xnm (K:=K) hlj)
  have hw:=Xv (k:=i) (by omega)
  have hk2:=Xpl h0 hr (i:=i+1) hlj
  have b1:decide (kS (kO K l i) 3 (l.getD i default).length<0)=false:=decide_eq_false (by have:=hk2.1;rw [kO_succ] at this;omega)
  have hpl:=hr _ (Xi hlj)
  have fq12:=fun {n:Nat}=>Xnn (n:=n) (K:=kO K l i) (L:=(l.getD i default).length) hk.1 (by omega) hpl
  refine go ?_
  try with_reducible rfl
  exact IH hlj _ _ (by rw [hw,kO_succ];rfl) rfl
 ·have hj2:i=l.length:=by omega
  have d1:decide ((i:Int)<(((mkOs K l).map Xp).length:Int))=false:=Xh (f:=Xp) (by rw [Xja];omega)
  refine go ?_
  try with_reducible rfl
  rw [hj2]
set_option maxHeartbeats 4000000 in
theorem Xhm {n:Nat} {K:Int} {l:List Th} (h0:0≤K) (h1:K≤281474976710656) (hl:l.length≤1048576) (hr:∀ t∈l,t.room):callP cfg (n+2) 146 [thsA (mkTs K l),.int .i64 K]=some ⟨.int .i64 (kT K l l.length),[]⟩:=by
 rw [Xa]
 refine go ?_
 refine (Xb (fun e i=>(e.set 5 (.int .i64 (i:Int))).set 1 (.int .i64 (kT K l i))) (fun h _=>h) (fun _=>some ⟨.int .i64 (kT K l l.length),[]⟩) l.length (by show _<18446744073709551616;omega) (by rw [kT_zero];rfl) ?_).trans rfl
 intro i f hj IH
 have hk:=Xs5 h0 h1 hl hr hj
 by_cases hlj:i<l.length
 ·have d1:decide ((i:Int)<(((mkTs K l).map thA).length:Int))=true:=Xf (f:=thA) (by rw [Xi9];exact hlj)
  have d2:=Xg i
  have r1:=Xkh (f:=thA) (Xnl (K:=K) hlj)
  have hw:=Xv (k:=i) (by omega)
  have hrt:=hr _ (Xi hlj)
  have hke:kT K l (i+1)=kS (qd (kT K l i+14) (l.getD i default)) 1 (l.getD i default).limbo.length:=kT_succ
  obtain ⟨g1,g2,g3,g4,g5⟩:=hrt
  generalize (l.getD i default)=T at *
  replace r1:((mkTs K l).map thA)[i]?=some (rowT (kT K l i) (Xl (mkI (kT K l i+14) T.found.length)) (Xl (mkI (qa (kT K l i+14) T) T.free.length)) (Yu (mkE (qb (kT K l i+14) T) T.buf.length)) (Yu (mkE (qc (kT K l i+14) T) T.work.length)) (Xl (mkI (qd (kT K l i+14) T) T.limbo.length))):=r1
  rw [hke] at IH
  generalize kT K l i=k at *
  generalize hA:qa (k+14) T=A at *
  generalize hB:qb (k+14) T=B at *
  generalize hC:qc (k+14) T=C at *
  generalize hD:qd (k+14) T=D at *
  generalize hE:kS D 1 T.limbo.length=E' at *
  replace hB:kS A 1 T.free.length=B:=by rw [←hA];exact hB
  replace hC:kS B 4 T.buf.length=C:=by rw [←hB,←hA];exact hC
  replace hD:kS C 4 T.work.length=D:=by rw [←hC,←hB,←hA];exact hD
  replace hA:kS (k+14) 1 T.found.length=A:=hA
  have eA:=Xky.symm.trans hA
  have eB:=Xky.symm.trans hB
  have eC:=Xky.symm.trans hC
  have eD:=Xky.symm.trans hD
  have eE:=Xky.symm.trans hE
  have fq11:=fun {n:Nat}=>Vm (n:=n) (K:=A) (L:=T.free.length) (by omega) (by omega) g2
  have fq12:=fun {n:Nat}=>Xdc (n:=n) (K:=B) (L:=T.buf.length) (by omega) (by omega) g3
  have fq13:=fun {n:Nat}=>Xdc (n:=n) (K:=C) (L:=T.work.length) (by omega) (by omega) g4
  have fq14:=fun {n:Nat}=>Vm (n:=n) (K:=D) (L:=T.limbo.length) (by omega) (by omega) g5
  have hF1:=fun {n:Nat}=>Vm (n:=n) (K:=k+14) (L:=T.found.length) (by omega) (by omega) g1
  rw [hB] at fq11
  rw [hC] at fq12
  rw [hD] at fq13
  rw [hE] at fq14
  rw [hA] at hF1
  have n1:decide (A<0)=false:=decide_eq_false (by omega)
  have n2:decide (B<0)=false:=decide_eq_false (by omega)
  have n3:decide (C<0)=false:=decide_eq_false (by omega)
  have n4:decide (D<0)=false:=decide_eq_false (by omega)
  have n5:decide (E'<0)=false:=decide_eq_false (by omega)
  have k0:=hk.1
  have k1:k≤18014398509481984:=by omega
  clear eA eB eC eD eE hA hB hC hD hE g1 g2 g3 g4 g5 hk
  obtain ⟨w1,w2,w3,w4,w5,w6,w7,w8,w9,w10,w11,w12,w13,w14⟩:=w14 k0 (by omega)
  have b0:(k !=k)=false:=Yb rfl
  have b1:((k+1) !=(IntKind.i64.wrap (k+1)))=false:=Yb (by rw [w1])
  have b2:((k+2) !=(IntKind.i64.wrap (IntKind.i64.wrap (k+1)+1)))=false:=Yb (by rw [w1,w2])
  have b3:((k+3) !=(IntKind.i64.wrap (IntKind.i64.wrap (IntKind.i64.wrap (k+1)+1)+1)))=false:=Yb (by rw [w1,w2,w3])
  have b4:((k+4) !=(IntKind.i64.wrap (IntKind.i64.wrap (IntKind.i64.wrap (IntKind.i64.wrap (k+1)+1)+1)+1)))=false:=Yb (by rw [w1,w2,w3,w4])
  have b5:((k+5) !=(IntKind.i64.wrap (IntKind.i64.wrap (IntKind.i64.wrap (IntKind.i64.wrap (IntKind.i64.wrap (k+1)+1)+1)+1)+1)))=false:=Yb (by rw [w1,w2,w3,w4,w5])
  have b6:((k+6) !=(IntKind.i64.wrap (IntKind.i64.wrap (IntKind.i64.wrap (IntKind.i64.wrap (IntKind.i64.wrap (IntKind.i64.wrap (k+1)+1)+1)+1)+1)+1)))=false:=Yb (by rw [w1,w2,w3,w4,w5,w6])
  have b7:((k+7) !=(IntKind.i64.wrap (IntKind.i64.wrap (IntKind.i64.wrap (IntKind.i64.wrap (IntKind.i64.wrap (IntKind.i64.wrap (IntKind.i64.wrap (k+1)+1)+1)+1)+1)+1)+1)))=false:=Yb (by rw [w1,w2,w3,w4,w5,w6,w7])
  have b8:((k+8) !=(IntKind.i64.wrap (IntKind.i64.wrap (IntKind.i64.wrap (IntKind.i64.wrap (IntKind.i64.wrap (IntKind.i64.wrap (IntKind.i64.wrap (IntKind.i64.wrap (k+1)+1)+1)+1)+1)+1)+1)+1)))=false:=Yb (by rw [w1,w2,w3,w4,w5,w6,w7,w8])
  have b9:((k+9) !=(IntKind.i64.wrap (IntKind.i64.wrap (IntKind.i64.wrap (IntKind.i64.wrap (IntKind.i64.wrap (IntKind.i64.wrap (IntKind.i64.wrap (IntKind.i64.wrap (IntKind.i64.wrap (k+1)+1)+1)+1)+1)+1)+1)+1)+1)))=false:=Yb (by rw [w1,w2,w3,w4,w5,w6,w7,w8,w9])
  have b10:((k+10) !=(IntKind.i64.wrap (IntKind.i64.wrap (IntKind.i64.wrap (IntKind.i64.wrap (IntKind.i64.wrap (IntKind.i64.wrap (IntKind.i64.wrap (IntKind.i64.wrap (IntKind.i64.wrap (IntKind.i64.wrap (k+1)+1)+1)+1)+1)+1)+1)+1)+1)+1)))=false:=Yb (by rw [w1,w2,w3,w4,w5,w6,w7,w8,w9,w10])
  have b11:((k+11) !=(IntKind.i64.wrap (IntKind.i64.wrap (IntKind.i64.wrap (IntKind.i64.wrap (IntKind.i64.wrap (IntKind.i64.wrap (IntKind.i64.wrap (IntKind.i64.wrap (IntKind.i64.wrap (IntKind.i64.wrap (IntKind.i64.wrap (k+1)+1)+1)+1)+1)+1)+1)+1)+1)+1)+1)))=false:=Yb (by rw [w1,w2,w3,w4,w5,w6,w7,w8,w9,w10,w11])
  have b12:((k+12) !=(IntKind.i64.wrap (IntKind.i64.wrap (IntKind.i64.wrap (IntKind.i64.wrap (IntKind.i64.wrap (IntKind.i64.wrap (IntKind.i64.wrap (IntKind.i64.wrap (IntKind.i64.wrap (IntKind.i64.wrap (IntKind.i64.wrap (IntKind.i64.wrap (k+1)+1)+1)+1)+1)+1)+1)+1)+1)+1)+1)+1)))=false:=Yb (by rw [w1,w2,w3,w4,w5,w6,w7,w8,w9,w10,w11,w12])
  have b13:((k+13) !=(IntKind.i64.wrap (IntKind.i64.wrap (IntKind.i64.wrap (IntKind.i64.wrap (IntKind.i64.wrap (IntKind.i64.wrap (IntKind.i64.wrap (IntKind.i64.wrap (IntKind.i64.wrap (IntKind.i64.wrap (IntKind.i64.wrap (IntKind.i64.wrap (IntKind.i64.wrap (k+1)+1)+1)+1)+1)+1)+1)+1)+1)+1)+1)+1)+1)))=false:=Yb (by rw [w1,w2,w3,w4,w5,w6,w7,w8,w9,w10,w11,w12,w13])
  have fq10:∀ {n:Nat},callP cfg (n+1) 85 [Xl (mkI (k+14) T.found.length),.int .i64 (IntKind.i64.wrap (IntKind.i64.wrap (IntKind.i64.wrap (IntKind.i64.wrap (IntKind.i64.wrap (IntKind.i64.wrap (IntKind.i64.wrap (IntKind.i64.wrap (IntKind.i64.wrap (IntKind.i64.wrap (IntKind.i64.wrap (IntKind.i64.wrap (IntKind.i64.wrap (IntKind.i64.wrap (k+1)+1)+1)+1)+1)+1)+1)+1)+1)+1)+1)+1)+1)+1))]=some ⟨.int .i64 A,[]⟩:=fun {n}=>by
   rw [w1,w2,w3,w4,w5,w6,w7,w8,w9,w10,w11,w12,w13,w14]
   exact hF1
  clear hF1 w1 w2 w3 w4 w5 w6 w7 w8 w9 w10 w11 w12 w13 w14
  refine go ?_
  try with_reducible rfl
  exact IH hlj _ _ (by rw [hw];rfl) rfl
 ·have hj2:i=l.length:=by omega
  have d1:decide ((i:Int)<(((mkTs K l).map thA).length:Int))=false:=Xh (f:=thA) (by rw [Xi9];omega)
  refine go ?_
  try with_reducible rfl
  rw [hj2]
abbrev ka (m:Mac):Int:=kS 1 1 m.s.cells.length
abbrev kb (m:Mac):Int:=kS (ka m) 1 m.s.gens.length
abbrev kc (m:Mac):Int:=kT (kb m) m.s.ths m.s.ths.length
abbrev kd (m:Mac):Int:=kO (kc m) m.progs m.progs.length
abbrev ke (m:Mac):Int:=kS (kd m) 1 m.next.length
abbrev kf (m:Mac):Int:=kS (ke m) 8 m.evs.length
abbrev xa (m:Mac):AV:=Xl (mkI 1 m.s.cells.length)
abbrev xb (m:Mac):AV:=Xl (mkI (ka m) m.s.gens.length)
abbrev xc (m:Mac):AV:=thsA (mkTs (kb m) m.s.ths)
abbrev xd (m:Mac):AV:=Yt (mkOs (kc m) m.progs)
abbrev xe (m:Mac):AV:=Xl (mkI (kd m) m.next.length)
abbrev xf (m:Mac):AV:=evsA (mkV (ke m) m.evs.length)
abbrev rowM (m:Mac) (ce ge th pr ne ev:AV):List AV:=[.int .i64 m.s.c.th,.int .i64 m.s.c.keys,.int .i64 m.s.c.cap,.int .i64 m.s.c.b,.int .i64 m.s.c.p,.int .i64 m.s.c.cm,ce,ge,th,.int .i64 m.s.steps,.int .i64 m.s.changes,.int .i64 m.s.retries,.int .i64 m.s.faults,pr,ne,ev,.int .i64 m.time]
theorem Ks {m:Mac} (hm:m.room):(0≤(ka m)∧(ka m)≤2000000)∧(0≤(kb m)∧(kb m)≤4000000)∧(0≤(kc m)∧(kc m)≤17592200000000)∧(0≤(kd m)∧(kd m)≤20890740000000)∧(0≤(ke m)∧(ke m)≤20890750000000)∧(0≤(kf m)∧(kf m)≤20890760000000):=by
 obtain ⟨⟨h11,h12,h13,h14⟩,h2,h3,h4,h5⟩:=hm
 have a1:0≤(ka m)∧(ka m)≤2000000:=by unfold ka;rw [Xky];omega
 have a2:0≤(kb m)∧(kb m)≤4000000:=by unfold kb;rw [Xky (K:=(ka m))];omega
 have a3:0≤(kc m)∧(kc m)≤(kb m)+16777216*(m.s.ths.length:Int):=Xs5 (K:=(kb m)) (l:=m.s.ths) a2.1 (by omega) h13 h14 (Nat.le_refl _)
 have a4:0≤(kd m)∧(kd m)≤(kc m)+3145728*(m.progs.length:Int):=Xpl (K:=(kc m)) (l:=m.progs) a3.1 h3 (Nat.le_refl _)
 have a5:0≤(ke m)∧(ke m)≤(kd m)+1048576:=by unfold ke;rw [Xky (K:=(kd m))];omega
 have a6:0≤(kf m)∧(kf m)≤(ke m)+8388608:=by unfold kf;rw [Xky (K:=(ke m))];omega
 omega
set_option maxHeartbeats 4000000 in
theorem Xki {n:Nat} {m:Mac} (hm:m.room):callP cfg (n+3) 83 [.agg [.int .i64 m.s.c.th,.int .i64 m.s.c.keys,.int .i64 m.s.c.cap,.int .i64 m.s.c.b,.int .i64 m.s.c.p,.int .i64 m.s.c.cm,(xa m),(xb m),(xc m),.int .i64 m.s.steps,.int .i64 m.s.changes,.int .i64 m.s.retries,.int .i64 m.s.faults],.int .i64 1]=some ⟨.int .i64 (kc m),[]⟩:=by
 rw [Xa]
 obtain ⟨a1,a2,a3,a4,a5,a6⟩:=Ks hm
 obtain ⟨⟨h11,h12,h13,h14⟩,h2,h3,h4,h5⟩:=hm
 have fq10:=fun {n:Nat}=>Vm (n:=n) (K:=1) (L:=m.s.cells.length) (by omega) (by omega) h11
 have fq11:=fun {n:Nat}=>Vm (n:=n) (K:=(ka m)) (L:=m.s.gens.length) a1.1 (by omega) h12
 have fq12:=fun {n:Nat}=>Xhm (n:=n) (K:=(kb m)) (l:=m.s.ths) a2.1 (by omega) h13 h14
 have n1:decide ((ka m)<0)=false:=decide_eq_false (by omega)
 have n2:decide ((kb m)<0)=false:=decide_eq_false (by omega)
 have n3:decide ((kc m)<0)=false:=decide_eq_false (by omega)
 refine go ?_
 try with_reducible rfl
 all_goals rfl
set_option maxHeartbeats 4000000 in
theorem Xcx {n:Nat} {m:Mac} (hm:m.room):callP cfg (n+4) 23 [.agg (rowM m (xa m) (xb m) (xc m) (xd m) (xe m) (xf m)),.int .i64 1]=some ⟨.int .i64 (kf m),[]⟩:=by
 rw [Xa]
 have fq10:=fun {n:Nat}=>Xki (n:=n) hm
 obtain ⟨a1,a2,a3,a4,a5,a6⟩:=Ks hm
 obtain ⟨⟨h11,h12,h13,h14⟩,h2,h3,h4,h5⟩:=hm
 have fq11:=fun {n:Nat}=>Xlc (n:=n) (K:=(kc m)) (l:=m.progs) a3.1 (by omega) h2 h3
 have fq12:=fun {n:Nat}=>Vm (n:=n) (K:=(kd m)) (L:=m.next.length) a4.1 (by omega) h4
 have fq13:=fun {n:Nat}=>Xjb (n:=n) (K:=(ke m)) (L:=m.evs.length) a5.1 (by omega) h5
 have n3:decide ((kc m)<0)=false:=decide_eq_false (by omega)
 have n4:decide ((kd m)<0)=false:=decide_eq_false (by omega)
 have n5:decide ((ke m)<0)=false:=decide_eq_false (by omega)
 have n6:decide ((kf m)<0)=false:=decide_eq_false (by omega)
 refine go ?_
 try with_reducible rfl
 all_goals rfl
noncomputable def rsG (x:Scr):Mac:=if scrB x=true then rsV x else mac0
theorem Xpm:mac0.room:=by
 refine ⟨⟨Nat.zero_le _,Nat.zero_le _,Nat.zero_le _,fun t ht=>nomatch ht⟩,Nat.zero_le _,(fun t ht=>nomatch ht),Nat.zero_le _,Nat.zero_le _⟩
theorem Xwm:mac0.evs.length≤80:=Nat.zero_le _
theorem X5x {x:Scr}:(rsG x).room∧(rsG x).evs.length≤80:=by
 unfold rsG
 split
 ·rename_i h
  exact ⟨(Xng h).mi.mroom,(Xng h).mi.el⟩
 ·exact ⟨Xpm,Xwm⟩
theorem X5y {x:Scr}:(if scrB x=true then macA (rsV x) else macA mac0)=macA (rsG x):=by unfold rsG;split <;> rfl
theorem Xaj {n:Nat} (h:n≤1048576):n≤maxLen:=by unfold maxLen;omega
theorem Sta.len_of {s:Sta} (h:s.room):s.len:=⟨Xaj h.1,Xaj h.2.1,Xaj h.2.2.1,fun t ht=>by
 obtain ⟨g1,g2,g3,g4,g5⟩:=h.2.2.2 t ht
 exact ⟨Xaj g1,Xaj g2,Xaj g3,Xaj g4,Xaj g5⟩⟩
end Go.Proofs.YtbploohjimpcaaaGreat.A
