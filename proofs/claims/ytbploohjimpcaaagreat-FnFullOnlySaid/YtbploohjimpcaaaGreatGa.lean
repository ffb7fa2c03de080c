/- What the program's functions answer (Ga): no condition. -/
import Derived.Test.YtbploohjimpcaaaGreatTab
set_option linter.unusedVariables false
set_option linter.unusedSimpArgs false
namespace Go.Proofs.YtbploohjimpcaaaGreat.A
open Go Go.Abs
set_option maxRecDepth 100000
theorem okB {x y:Bool} (h:x=y):some (⟨.bool x,[]⟩:Res)=some ⟨.bool y,[]⟩:=by rw [h]
theorem okI {x y:Int} (h:x=y):some (⟨.int .i64 x,[]⟩:Res)=some ⟨.int .i64 y,[]⟩:=by rw [h]
structure Op3 where
 k:Int
 key:Int
 v:Int
 deriving Inhabited,DecidableEq
structure Rs where
 c:Int
 v:Int
 deriving Inhabited,DecidableEq
structure Ent where
 h:Int
 key:Int
 lo:Int
 hi:Int
 deriving Inhabited,DecidableEq
structure Cf where
 th:Int
 keys:Int
 cap:Int
 b:Int
 p:Int
 cm:Int
 deriving Inhabited,DecidableEq
structure Th where
 pc:Int
 op:Op3
 res:Rs
 snap:Int
 node:Int
 prev:Int
 curr:Int
 next:Int
 seen:Int
 stamp:Int
 pos:Int
 found:List Int
 free:List Int
 buf:List Ent
 work:List Ent
 limbo:List Int
 deriving Inhabited,DecidableEq
structure Sta where
 c:Cf
 cells:List Int
 gens:List Int
 ths:List Th
 steps:Int
 changes:Int
 retries:Int
 faults:Int
 deriving Inhabited,DecidableEq
abbrev iA (n:Int):List AV:=[.int .i64 n]
abbrev Xl (xs:List Int):AV:=.lst 1 (xs.map iA)
abbrev opA (o:Op3):List AV:=[.int .i64 o.k,.int .i64 o.key,.int .i64 o.v]
abbrev rsA (o:Rs):List AV:=[.int .i64 o.c,.int .i64 o.v]
abbrev entA (e:Ent):List AV:=[.int .i64 e.h,.int .i64 e.key,.int .i64 e.lo,.int .i64 e.hi]
abbrev Yu (xs:List Ent):AV:=.lst 4 (xs.map entA)
abbrev cfA (c:Cf):List AV:=[.int .i64 c.th,.int .i64 c.keys,.int .i64 c.cap,.int .i64 c.b,.int .i64 c.p,.int .i64 c.cm]
abbrev thA (t:Th):List AV:=[.int .i64 t.pc,.int .i64 t.op.k,.int .i64 t.op.key,.int .i64 t.op.v,.int .i64 t.res.c,.int .i64 t.res.v,.int .i64 t.snap,.int .i64 t.node,.int .i64 t.prev,.int .i64 t.curr,.int .i64 t.next,.int .i64 t.seen,.int .i64 t.stamp,.int .i64 t.pos,Xl t.found,Xl t.free,Yu t.buf,Yu t.work,Xl t.limbo]
abbrev thsA (xs:List Th):AV:=.lst 19 (xs.map thA)
abbrev staA (s:Sta):List AV:=[.int .i64 s.c.th,.int .i64 s.c.keys,.int .i64 s.c.cap,.int .i64 s.c.b,.int .i64 s.c.p,.int .i64 s.c.cm,Xl s.cells,Xl s.gens,thsA s.ths,.int .i64 s.steps,.int .i64 s.changes,.int .i64 s.retries,.int .i64 s.faults]
def Th.len (t:Th):Prop:=t.found.length≤maxLen∧t.free.length≤maxLen∧t.buf.length≤maxLen∧t.work.length≤maxLen∧t.limbo.length≤maxLen
def Th.room (t:Th):Prop:=t.found.length≤1048576∧t.free.length≤1048576∧t.buf.length≤1048576∧t.work.length≤1048576∧t.limbo.length≤1048576
def Sta.len (s:Sta):Prop:=s.cells.length≤maxLen∧s.gens.length≤maxLen∧s.ths.length≤maxLen∧∀ t∈s.ths,t.len
def Sta.room (s:Sta):Prop:=s.cells.length≤1048576∧s.gens.length≤1048576∧s.ths.length≤1048576∧∀ t∈s.ths,t.room
def sz1 (b:Int) (n:Nat):Int:=if b - n<0 then -1 else b - n
theorem Xub {b:Int} {n:Nat} (h:b≤1048576):sz1 b n≤1048576:=by unfold sz1;split <;> omega
theorem X1 {n:Nat} {a b c:Int}:callP cfg (n+1) 96 [.int .i64 a,.int .i64 b,.int .i64 c]=some ⟨.bool (decide (b≤a)&&decide (a≤c)),[]⟩:=by
 rw [Xa]
 refine goS ?_
 repeat' (refine Y9 (fun _=>?_) (fun _=>?_))
 all_goals (conv=>lhs;whnf)
 all_goals (refine okB ?_;simp_all <;> omega)
theorem Xk {n:Nat} {a b c:Int}:callP cfg (n+1) 93 [.int .i64 a,.int .i64 b,.int .i64 c]=some ⟨.bool (decide (b≤a)&&decide (a≤c)),[]⟩:=by
 rw [Xa]
 refine goS ?_
 repeat' (refine Y9 (fun _=>?_) (fun _=>?_))
 all_goals (conv=>lhs;whnf)
 all_goals (refine okB ?_;simp_all <;> omega)
abbrev inB (a b c:Int):Bool:=decide (b≤a)&&decide (a≤c)
def Yp (c:Cf):Bool:=inB c.th 1 4&&inB c.keys 1 4&&inB c.cap 1 24&&inB c.b 1 4&&inB c.p 0 2&&inB c.cm 1 99
theorem Xx {n:Nat} {c:Cf}:callP cfg (n+2) 169 [.agg (cfA c)]=some ⟨.bool (Yp c),[]⟩:=by
 rw [Xa]
 have fq1:=@X1
 refine goS ?_
 clear fq1
 repeat' (refine Y9 (fun _=>?_) (fun _=>?_))
 all_goals (conv=>lhs;whnf)
 all_goals (refine okB ?_;unfold Yp;simp_all <;> omega)
theorem X0 {n:Nat} {c:Cf}:callP cfg (n+2) 101 [.agg (cfA c)]=some ⟨.bool (Yp c),[]⟩:=by
 rw [Xa]
 have fq1:=@Xk
 refine goS ?_
 clear fq1
 repeat' (refine Y9 (fun _=>?_) (fun _=>?_))
 all_goals (conv=>lhs;whnf)
 all_goals (refine okB ?_;unfold Yp;simp_all <;> omega)
theorem Xk1 {n:Nat} {c:Cf}:callP cfg (n+1) 38 [.agg (cfA c)]=some ⟨.agg (cfA c),[]⟩:=by
 rw [Xa]
 refine go ?_
 try with_reducible rfl
theorem Xsl {n:Nat} {o:Op3}:callP cfg (n+1) 155 [.agg (opA o)]=some ⟨.agg (opA o),[]⟩:=by
 rw [Xa]
 refine go ?_
 try with_reducible rfl
theorem Xes {n:Nat} {a b:Cf}:callP cfg (n+1) 78 [.agg (cfA a),.agg (cfA b)]=some ⟨.bool (decide (a=b)),[]⟩:=by
 rw [Xa]
 refine goS ?_
 repeat' (refine Y9 (fun _=>?_) (fun _=>?_))
 all_goals (conv=>lhs;whnf)
 all_goals (refine okB ?_;cases a;cases b;simp_all)
theorem Xc2 {n:Nat} {a b:Op3}:callP cfg (n+1) 156 [.agg (opA a),.agg (opA b)]=some ⟨.bool (decide (a=b)),[]⟩:=by
 rw [Xa]
 refine goS ?_
 repeat' (refine Y9 (fun _=>?_) (fun _=>?_))
 all_goals (conv=>lhs;whnf)
 all_goals (refine okB ?_;cases a;cases b;simp_all)
theorem Xet {n:Nat} {a b:Rs}:callP cfg (n+1) 211 [.agg (rsA a),.agg (rsA b)]=some ⟨.bool (decide (a=b)),[]⟩:=by
 rw [Xa]
 refine goS ?_
 repeat' (refine Y9 (fun _=>?_) (fun _=>?_))
 all_goals (conv=>lhs;whnf)
 all_goals (refine okB ?_;cases a;cases b;simp_all)
theorem Xfp {n:Nat} {a b:Ent}:callP cfg (n+1) 330 [.agg (entA a),.agg (entA b)]=some ⟨.bool (decide (a=b)),[]⟩:=by
 rw [Xa]
 refine goS ?_
 repeat' (refine Y9 (fun _=>?_) (fun _=>?_))
 all_goals (conv=>lhs;whnf)
 all_goals (refine okB ?_;cases a;cases b;simp_all)
theorem Vs {n:Nat} {xs ys:List Int} (hx:xs.length≤maxLen):callP cfg (n+1) 76 [Xl xs,Xl ys]=some ⟨.bool (decide (xs=ys)),[]⟩:=by
 rw [Xa]
 unfold maxLen at hx
 by_cases hl:xs.length=ys.length
 ·have e0:(((xs.map iA).length:Int) !=((ys.map iA).length:Int))=false:=by simp [hl]
  refine go ?_
  refine (Xb (fun e k=>e.set 5 (.int .i64 (k:Int))) (fun h _=>h) (fun k=>some ⟨.bool (decide (xs.drop k=ys.drop k)),[]⟩) xs.length (by show _<18446744073709551616;omega) rfl ?_).trans (by simp)
  intro k f hk IH
  by_cases hlt:k<xs.length
  ·have e1:=Xf (f:=iA) hlt
   have e2:=Xg k
   have e3:=Xf (f:=iA) (xs:=ys) (k:=k) (by omega)
   have r1:=Xe (f:=iA) hlt
   have r2:=Xe (l:=ys) (f:=iA) (i:=k) (by omega)
   have hw:=Xv (k:=k) (by omega)
   by_cases hv:xs.getD k default=ys.getD k default
   ·have e4:=Yb hv
    refine go ?_
    try with_reducible rfl
    refine (IH hlt _ _ (by rw [hw];rfl) rfl).trans ?_
    rw [Xq hlt,Xq (l:=ys) (by omega:k<ys.length),hv]
    simp
   ·have e4:=Zn hv
    refine go ?_
    try with_reducible rfl
    rw [Xq hlt,Xq (l:=ys) (by omega:k<ys.length)]
    simp
    exact fun h=>absurd h hv
  ·have e1:=Xh (f:=iA) (Nat.le_of_not_lt hlt)
   refine go ?_
   try with_reducible rfl
   rw [List.drop_eq_nil_of_le (by omega),List.drop_eq_nil_of_le (by omega)]
   simp
 ·have e0:(((xs.map iA).length:Int) !=((ys.map iA).length:Int))=true:=Zn (by simp only [List.length_map];omega)
  refine go ?_
  try with_reducible rfl
  have:¬xs=ys:=fun e=>hl (by rw [e])
  simp [this]
theorem Xeu {n:Nat} {xs ys:List Ent} (hx:xs.length≤maxLen):callP cfg (n+2) 283 [Yu xs,Yu ys]=some ⟨.bool (decide (xs=ys)),[]⟩:=by
 rw [Xa]
 unfold maxLen at hx
 by_cases hl:xs.length=ys.length
 ·have e0:(((xs.map entA).length:Int) !=((ys.map entA).length:Int))=false:=by simp [hl]
  refine go ?_
  refine (Xb (fun e k=>e.set 5 (.int .i64 (k:Int))) (fun h _=>h) (fun k=>some ⟨.bool (decide (xs.drop k=ys.drop k)),[]⟩) xs.length (by show _<18446744073709551616;omega) rfl ?_).trans (by simp)
  intro k f hk IH
  by_cases hlt:k<xs.length
  ·have e1:=Xf (f:=entA) hlt
   have e2:=Xg k
   have e3:=Xf (f:=entA) (xs:=ys) (k:=k) (by omega)
   have r1:=Xe (f:=entA) hlt
   have r2:=Xe (l:=ys) (f:=entA) (i:=k) (by omega)
   have hw:=Xv (k:=k) (by omega)
   by_cases hv:xs.getD k default=ys.getD k default
   ·have e4:(!decide (xs.getD k default=ys.getD k default))=false:=by rw [hv];simp
    have fq1:=@Xfp
    refine go ?_
    clear fq1
    try with_reducible rfl
    refine (IH hlt _ _ (by rw [hw];rfl) rfl).trans ?_
    rw [Xq hlt,Xq (l:=ys) (by omega:k<ys.length),hv]
    simp
   ·have e4:(!decide (xs.getD k default=ys.getD k default))=true:=by simpa using hv
    have fq1:=@Xfp
    refine go ?_
    clear fq1
    try with_reducible rfl
    rw [Xq hlt,Xq (l:=ys) (by omega:k<ys.length)]
    simp
    exact fun h=>absurd h hv
  ·have e1:=Xh (f:=entA) (Nat.le_of_not_lt hlt)
   refine go ?_
   try with_reducible rfl
   rw [List.drop_eq_nil_of_le (by omega),List.drop_eq_nil_of_le (by omega)]
   simp
 ·have e0:(((xs.map entA).length:Int) !=((ys.map entA).length:Int))=true:=Zn (by simp only [List.length_map];omega)
  refine go ?_
  try with_reducible rfl
  have:¬xs=ys:=fun e=>hl (by rw [e])
  simp [this]
theorem Xnr {n:Nat} {xs:List Int} (hx:xs.length*8≤140737488355328):callP cfg (n+1) 71 [Xl xs]=some ⟨Xl xs,[]⟩:=by
 rw [Xa]
 have e0:decide (((((xs.map iA).length:Int)).toNat*ty3.bytes≤Yf))=true:=decide_eq_true (by simp only [List.length_map,Int.toNat_natCast];exact hx)
 have e1:decide ((0:Int)≤((xs.map iA).length:Int))=true:=decide_eq_true (by omega)
 have e2:decide (((xs.map iA).length:Int)≤((xs.map iA).length:Int))=true:=decide_eq_true (by omega)
 refine go ?_
 try with_reducible rfl
 rw [Xhh (f:=iA) (z:=ty3.zero) (xs:=xs) (by simp)]
 refine (Xb (fun e k=>e.set 4 (.int .i64 (k:Int))) (fun h k=>h.set 2 (some ⟨false,false,false,1,Qn iA ty3.zero xs k⟩)) (fun k=>some ⟨Xl xs,[]⟩) xs.length (by show _<18446744073709551616;omega) rfl ?_).trans rfl
 intro k f hk IH
 by_cases hlt:k<xs.length
 ·have e1:=Xf (f:=iA) hlt
  have e2:=Xg k
  have e3:decide ((k:Int)<((Qn iA ty3.zero xs k).length:Int))=true:=decide_eq_true (by rw [Xb5 hk];omega)
  have hL:k<(Qn iA ty3.zero xs k).length:=by rw [Xb5 hk];exact hlt
  have r1:=Xe (f:=iA) hlt
  have r2:=Xjy (f:=iA) (z:=ty3.zero) hlt
  have hw:=Xv (k:=k) (by omega)
  have st1:=r2
  refine go ?_
  clear st1
  try with_reducible rfl
  refine IH hlt _ _ (by rw [hw];rfl) (by rw [←Xjz hlt];rfl)
 ·have e1:=Xh (f:=iA) (Nat.le_of_not_lt hlt)
  obtain rfl:k=xs.length:=by omega
  rw [Xj0]
  refine go ?_
  try with_reducible rfl
theorem Xgy {n:Nat} {xs:List Int} {b:Int} (hx:xs.length≤maxLen) (h0:0≤b) (h1:b≤1048576):callP cfg (n+1) 69 [Xl xs,.int .i64 b]=some ⟨.int .i64 (sz1 b xs.length),[]⟩:=by
 rw [Xa]
 unfold maxLen at hx
 have hw:IntKind.i64.wrap (b - ((xs.map iA).length:Int))=b - xs.length:=by
  rw [List.length_map];exact Xc (by omega) (by omega)
 unfold sz1
 by_cases hb:b - (xs.length:Int)<0
 ·rw [if_pos hb]
  have e0:decide (IntKind.i64.wrap (b - ((xs.map iA).length:Int))<0)=true:=by rw [hw];simpa using hb
  refine go ?_
  try with_reducible rfl
 ·rw [if_neg hb]
  have e0:decide (IntKind.i64.wrap (b - ((xs.map iA).length:Int))<0)=false:=by rw [hw];simpa using hb
  refine go ?_
  try with_reducible rfl
  rw [hw]
abbrev I64 (h:Int):Prop:=-9223372036854775808≤h∧h≤9223372036854775807
def isH (h:Int):Bool:=decide (2≤h∧h / 2 % 64≠0∧h / 2 / 64≤9999)
def idxB (h:Int):Int:=if isH h=true then h / 2 % 64 - 1 else -1
def genB (h:Int):Int:=if isH h=true then h / 2 / 64 else -1
def isMk (h:Int):Bool:=decide (h=1)||isH h&&decide (h % 2=1)
def unmk (h:Int):Int:=if isMk h=true then h - 1 else h
def Zt (e:Ent):Bool:=isH e.h&&!isMk e.h&&inB e.key 0 9&&(decide (1≤e.lo)&&decide (e.lo≤e.hi))&&decide (e.hi≤99)
theorem Xak {x y:R}:br (decide ((2:Int)=0)) x y=y:=Uk (by decide)
theorem Q4 {x y:R}:br (decide ((64:Int)=0)) x y=y:=Uk (by decide)
theorem w2 {h:Int} (hh:I64 h) (h0:0≤h):IntKind.i64.wrap (h.tdiv 2)=h / 2:=by
 rw [Int.tdiv_eq_ediv_of_nonneg h0];exact Xc (by omega) (by have:=hh.2;omega)
theorem m64 {n:Int} (h0:0≤n):n.tmod 64=n % 64:=Int.tmod_eq_emod_of_nonneg h0
theorem m2 {n:Int} (h0:0≤n):n.tmod 2=n % 2:=Int.tmod_eq_emod_of_nonneg h0
theorem d64 {n:Int} (hh:I64 n) (h0:0≤n):IntKind.i64.wrap (n.tdiv 64)=n / 64:=by
 rw [Int.tdiv_eq_ediv_of_nonneg h0];exact Xc (by omega) (by have:=hh.2;omega)
theorem okT {a a' b b':Int} {c c':Bool} (h1:a=a') (h2:b=b') (h3:c=c'):some (⟨.tup [.int .i64 a,.int .i64 b,.bool c],[]⟩:Res)=some ⟨.tup [.int .i64 a',.int .i64 b',.bool c'],[]⟩:=by rw [h1,h2,h3]
theorem Xaq {h:Int} (hh:isH h=true):2≤h:=by
 have:=of_decide_eq_true hh;omega
theorem Xfq {h:Int} (hh:isMk h=true):1≤h:=by
 unfold isMk at hh
 rcases Bool.or_eq_true_iff.1 hh with h1 | h1
 ·have:=of_decide_eq_true h1;omega
 ·have:=Xaq (Bool.and_eq_true_iff.1 h1).1;omega
theorem Yj {n:Nat} {h:Int} (hh:I64 h):callP cfg (n+1) 203 [.int .i64 h]=some ⟨.bool (isH h),[]⟩:=by
 rw [Xa]
 by_cases h0:0≤h
 ·have w:=w2 hh h0
  have q0:0≤h / 2:=by omega
  have m:=m64 q0
  have d:=d64 (n:=h / 2) (by have:=hh.2;unfold I64;omega) q0
  have x1:=@Xak
  have x2:=@Q4
  refine goS ?_
  clear x1 x2
  repeat' (refine Y9 (fun _=>?_) (fun _=>?_))
  all_goals (conv=>lhs;whnf)
  all_goals (refine okB ?_;unfold isH;(try simp only [w,m,d] at *);simp only [decide_eq_true_eq,decide_eq_false_iff_not] at *;first | (refine decide_eq_decide.2 ?_;omega) | (simp_all;done) | (simp_all <;> omega))
 ·skip
  have x1:=@Xak
  have x2:=@Q4
  refine goS ?_
  clear x1 x2
  repeat' (refine Y9 (fun _=>?_) (fun _=>?_))
  all_goals (conv=>lhs;whnf)
  all_goals (refine okB ?_;unfold isH;simp_all <;> omega)
theorem Xzw {h:Int} (h2:¬h<2) (h3:¬(h / 2 - 1) % 64>62) (h4:¬(h / 2 - 1) / 64>9999):isH h=true∧idxB h=(h / 2 - 1) % 64∧genB h=(h / 2 - 1) / 64:=by
 have:isH h=true:=decide_eq_true (by omega)
 refine ⟨this,?_,?_⟩
 ·unfold idxB;rw [if_pos this];omega
 ·unfold genB;rw [if_pos this];omega
theorem Xmx {h:Int} (h2:h<2∨(h / 2 - 1) % 64>62∨(h / 2 - 1) / 64>9999):isH h=false∧idxB h=-1∧genB h=-1:=by
 have:isH h=false:=decide_eq_false (by omega)
 refine ⟨this,?_,?_⟩
 ·unfold idxB;rw [if_neg (by rw [this];simp)]
 ·unfold genB;rw [if_neg (by rw [this];simp)]
theorem Xen {n:Nat} {h:Int} (hh:I64 h):callP cfg (n+1) 192 [.int .i64 h]=some ⟨.tup [.int .i64 (idxB h),.int .i64 (genB h),.bool (isH h)],[]⟩:=by
 rw [Xa]
 by_cases h2:h<2
 ·have e0:decide (h<2)=true:=by simpa using h2
  obtain ⟨p1,p2,p3⟩:=Xmx (.inl h2)
  have x1:=@Xak
  have x2:=@Q4
  refine go ?_
  clear x1 x2
  try with_reducible rfl
  exact okT p2.symm p3.symm p1.symm
 ·have e0:decide (h<2)=false:=by simpa using h2
  have w:IntKind.i64.wrap (IntKind.i64.wrap (h.tdiv 2) - 1)=h / 2 - 1:=by
   rw [w2 hh (by omega)];exact Xc (by omega) (by have:=hh.2;omega)
  have q0:0≤h / 2 - 1:=by omega
  have m:(IntKind.i64.wrap (IntKind.i64.wrap (h.tdiv 2) - 1)).tmod 64=(h / 2 - 1) % 64:=by rw [w,m64 q0]
  have d:IntKind.i64.wrap ((IntKind.i64.wrap (IntKind.i64.wrap (h.tdiv 2) - 1)).tdiv 64)=(h / 2 - 1) / 64:=by rw [w];exact d64 (by have:=hh.2;unfold I64;omega) q0
  by_cases h3:(h / 2 - 1) % 64>62
  ·have e1:decide ((IntKind.i64.wrap (IntKind.i64.wrap (h.tdiv 2) - 1)).tmod 64>62)=true:=by rw [m];simpa using h3
   obtain ⟨p1,p2,p3⟩:=Xmx (.inr (.inl h3))
   have x1:=@Xak
   have x2:=@Q4
   refine go ?_
   clear x1 x2
   try with_reducible rfl
   exact okT p2.symm p3.symm p1.symm
  ·have e1:decide ((IntKind.i64.wrap (IntKind.i64.wrap (h.tdiv 2) - 1)).tmod 64>62)=false:=by rw [m];simpa using h3
   by_cases h4:(h / 2 - 1) / 64>9999
   ·have e2:decide (IntKind.i64.wrap ((IntKind.i64.wrap (IntKind.i64.wrap (h.tdiv 2) - 1)).tdiv 64)>9999)=true:=by rw [d];simpa using h4
    obtain ⟨p1,p2,p3⟩:=Xmx (.inr (.inr h4))
    have x1:=@Xak
    have x2:=@Q4
    refine go ?_
    clear x1 x2
    try with_reducible rfl
    exact okT p2.symm p3.symm p1.symm
   ·have e2:decide (IntKind.i64.wrap ((IntKind.i64.wrap (IntKind.i64.wrap (h.tdiv 2) - 1)).tdiv 64)>9999)=false:=by rw [d];simpa using h4
    obtain ⟨p1,p2,p3⟩:=Xzw h2 h3 h4
    have x1:=@Xak
    have x2:=@Q4
    refine go ?_
    clear x1 x2
    try with_reducible rfl
    exact okT (m.trans p2.symm) (d.trans p3.symm) p1.symm
theorem Wq {n:Nat} {h:Int} (hh:I64 h):callP cfg (n+2) 320 [.int .i64 h]=some ⟨.bool (isH h),[]⟩:=by
 rw [Xa]
 have fq1:=fun {n:Nat}=>Xen (n:=n) hh
 refine go ?_
 clear fq1
 try with_reducible rfl
theorem Yo {n:Nat} {h:Int} (hh:I64 h):callP cfg (n+2) 128 [.int .i64 h]=some ⟨.int .i64 (idxB h),[]⟩:=by
 rw [Xa]
 have fq1:=fun {n:Nat}=>Xen (n:=n) hh
 refine go ?_
 clear fq1
 try with_reducible rfl
theorem Xgk {n:Nat} {h:Int} (hh:I64 h):callP cfg (n+2) 276 [.int .i64 h]=some ⟨.int .i64 (genB h),[]⟩:=by
 rw [Xa]
 have fq1:=fun {n:Nat}=>Xen (n:=n) hh
 refine go ?_
 clear fq1
 try with_reducible rfl
theorem X8 {n:Nat} {h:Int} (hh:I64 h):callP cfg (n+2) 133 [.int .i64 h]=some ⟨.int .i64 (idxB h),[]⟩:=by
 rw [Xa]
 by_cases hc:isH h=true
 ·have e0:(!isH h)=false:=by rw [hc];rfl
  have h2:=Xaq hc
  have fq1:=fun {n:Nat}=>Yj (n:=n) hh
  have x1:=@Xak
  have x2:=@Q4
  refine go ?_
  clear fq1 x1 x2
  try with_reducible rfl
  refine okI ?_
  unfold idxB
  rw [if_pos hc]
  rw [w2 hh (by omega),m64 (n:=h / 2) (by omega)];exact Xc (by have:=Int.emod_nonneg (h / 2) (show (64:Int)≠0 by decide);omega) (by have:=Int.emod_lt_of_pos (h / 2) (show (0:Int)<64 by decide);omega)
 ·have e0:(!isH h)=true:=by simpa using hc
  have fq1:=fun {n:Nat}=>Yj (n:=n) hh
  have x1:=@Xak
  have x2:=@Q4
  refine go ?_
  clear fq1 x1 x2
  try with_reducible rfl
  refine okI ?_
  unfold idxB
  rw [if_neg hc]
theorem Xbr {n:Nat} {h:Int} (hh:I64 h):callP cfg (n+2) 280 [.int .i64 h]=some ⟨.int .i64 (genB h),[]⟩:=by
 rw [Xa]
 by_cases hc:isH h=true
 ·have e0:(!isH h)=false:=by rw [hc];rfl
  have h2:=Xaq hc
  have fq1:=fun {n:Nat}=>Yj (n:=n) hh
  have x1:=@Xak
  have x2:=@Q4
  refine go ?_
  clear fq1 x1 x2
  try with_reducible rfl
  refine okI ?_
  unfold genB
  rw [if_pos hc]
  rw [w2 hh (by omega)];exact d64 (by have:=hh.2;unfold I64;omega) (by omega)
 ·have e0:(!isH h)=true:=by simpa using hc
  have fq1:=fun {n:Nat}=>Yj (n:=n) hh
  have x1:=@Xak
  have x2:=@Q4
  refine go ?_
  clear fq1 x1 x2
  try with_reducible rfl
  refine okI ?_
  unfold genB
  rw [if_neg hc]
theorem X5 {n:Nat} {h:Int} (hh:I64 h):callP cfg (n+2) 197 [.int .i64 h]=some ⟨.bool (isMk h),[]⟩:=by
 rw [Xa]
 by_cases hc:isH h=true
 ·have h2:=Xaq hc
  have m:=m2 (n:=h) (by omega)
  have fq1:=fun {n:Nat}=>Yj (n:=n) hh
  have x1:=@Xak
  have x2:=@Q4
  refine goS ?_
  clear fq1 x1 x2
  repeat' (refine Y9 (fun _=>?_) (fun _=>?_))
  all_goals (conv=>lhs;whnf)
  all_goals (refine okB ?_;unfold isMk;(try rw [m]);first | (simp_all;done) | (rw [Bool.eq_iff_iff];simp_all;done) | (rw [Bool.eq_iff_iff];simp_all;omega))
 ·have hc':isH h=false:=by simpa using hc
  have fq1:=fun {n:Nat}=>Yj (n:=n) hh
  have x1:=@Xak
  have x2:=@Q4
  refine goS ?_
  clear fq1 x1 x2
  repeat' (refine Y9 (fun _=>?_) (fun _=>?_))
  all_goals (conv=>lhs;whnf)
  all_goals (refine okB ?_;unfold isMk;simp_all <;> omega)
theorem Uh {n:Nat} {h:Int} (hh:I64 h):callP cfg (n+3) 262 [.int .i64 h]=some ⟨.bool (isMk h),[]⟩:=by
 rw [Xa]
 by_cases hc:isH h=true
 ·have h2:=Xaq hc
  have m:=m2 (n:=h) (by omega)
  have fq1:=fun {n:Nat}=>Wq (n:=n) hh
  have x1:=@Xak
  have x2:=@Q4
  refine goS ?_
  clear fq1 x1 x2
  repeat' (refine Y9 (fun _=>?_) (fun _=>?_))
  all_goals (conv=>lhs;whnf)
  all_goals (refine okB ?_;unfold isMk;(try rw [m]);first | (simp_all;done) | (rw [Bool.eq_iff_iff];simp_all;done) | (rw [Bool.eq_iff_iff];simp_all;omega))
 ·have hc':isH h=false:=by simpa using hc
  have fq1:=fun {n:Nat}=>Wq (n:=n) hh
  have x1:=@Xak
  have x2:=@Q4
  refine goS ?_
  clear fq1 x1 x2
  repeat' (refine Y9 (fun _=>?_) (fun _=>?_))
  all_goals (conv=>lhs;whnf)
  all_goals (refine okB ?_;unfold isMk;simp_all <;> omega)
theorem Xbh {n:Nat} {h:Int} (hh:I64 h):callP cfg (n+3) 202 [.int .i64 h]=some ⟨.int .i64 (unmk h),[]⟩:=by
 rw [Xa]
 by_cases hc:isMk h=true
 ·have h2:=Xfq hc
  have fq1:=fun {n:Nat}=>X5 (n:=n) hh
  refine go ?_
  clear fq1
  try with_reducible rfl
  refine okI ?_
  unfold unmk
  rw [if_pos hc]
  exact Xc (by omega) (by have:=hh.2;omega)
 ·have hc':isMk h=false:=by simpa using hc
  have fq1:=fun {n:Nat}=>X5 (n:=n) hh
  refine go ?_
  clear fq1
  try with_reducible rfl
  refine okI ?_
  unfold unmk
  rw [if_neg hc]
theorem Ze {n:Nat} {h:Int} (hh:I64 h):callP cfg (n+4) 174 [.int .i64 h]=some ⟨.int .i64 (unmk h),[]⟩:=by
 rw [Xa]
 by_cases hc:isMk h=true
 ·have h2:=Xfq hc
  have fq1:=fun {n:Nat}=>Uh (n:=n) hh
  refine go ?_
  clear fq1
  try with_reducible rfl
  refine okI ?_
  unfold unmk
  rw [if_pos hc]
  exact Xc (by omega) (by have:=hh.2;omega)
 ·have hc':isMk h=false:=by simpa using hc
  have fq1:=fun {n:Nat}=>Uh (n:=n) hh
  refine go ?_
  clear fq1
  try with_reducible rfl
  refine okI ?_
  unfold unmk
  rw [if_neg hc]
theorem Z8 {n:Nat} {e:Ent} (hh:I64 e.h):callP cfg (n+3) 277 [.agg (entA e)]=some ⟨.bool (Zt e),[]⟩:=by
 rw [Xa]
 have fq1:=fun {n:Nat}=>Yj (n:=n) hh
 have fq2:=fun {n:Nat}=>X5 (n:=n) hh
 have fq3:=@Xk
 refine goS ?_
 clear fq1 fq2 fq3
 repeat' (refine Y9 (fun _=>?_) (fun _=>?_))
 all_goals (conv=>lhs;whnf)
 all_goals (refine okB ?_;unfold Zt;simp_all <;> omega)
theorem Xfr {n:Nat} {e:Ent} (hh:I64 e.h):callP cfg (n+4) 324 [.agg (entA e)]=some ⟨.bool (Zt e),[]⟩:=by
 rw [Xa]
 have fq1:=fun {n:Nat}=>Wq (n:=n) hh
 have fq2:=fun {n:Nat}=>Uh (n:=n) hh
 have fq3:=@X1
 refine goS ?_
 clear fq1 fq2 fq3
 repeat' (refine Y9 (fun _=>?_) (fun _=>?_))
 all_goals (conv=>lhs;whnf)
 all_goals (refine okB ?_;unfold Zt;simp_all <;> omega)
def Vx (o:Op3):Bool:=if o.k=1∨o.k=4∨o.k=5 then decide (o.key=0∧o.v=0) else if o.k=2 then decide (0≤o.key∧o.key≤9∧o.v=0) else if o.k=3 then decide (0≤o.key∧o.key≤9∧0≤o.v∧o.v≤99) else false
theorem Yn {n:Nat} {o:Op3}:callP cfg (n+2) 162 [.agg (opA o)]=some ⟨.bool (Vx o),[]⟩:=by
 rw [Xa]
 obtain ⟨a1,a2,a3⟩:=o
 have fq1:=@Xk
 refine goS ?_
 clear fq1
 repeat' (refine Y9 (fun _=>?_) (fun _=>?_))
 all_goals (conv=>lhs;whnf)
 all_goals (refine okB ?_;unfold Vx;first | (simp_all;done) | grind)
theorem Ya {n:Nat} {o:Op3}:callP cfg (n+2) 122 [.agg (opA o)]=some ⟨.bool (Vx o),[]⟩:=by
 rw [Xa]
 obtain ⟨a1,a2,a3⟩:=o
 have fq1:=@X1
 refine goS ?_
 clear fq1
 repeat' (refine Y9 (fun _=>?_) (fun _=>?_))
 all_goals (conv=>lhs;whnf)
 all_goals (refine okB ?_;unfold Vx;first | (simp_all;done) | grind)
def Xmy:List (Int×ByteArray):=[(0,⟨#[105,100,108,101]⟩),(1,⟨#[98,101,103,105,110,32,108,111,97,100]⟩),(2,⟨#[98,101,103,105,110,32,97,110,110,111,117,110,99,101]⟩),(3,⟨#[98,101,103,105,110,32,99,104,101,99,107]⟩),(4,⟨#[98,101,103,105,110,32,116,105,99,107]⟩),(5,⟨#[98,101,103,105,110,32,99,108,101,97,114]⟩),(10,⟨#[119,97,108,107,32,104,101,97,100]⟩),(11,⟨#[119,97,108,107,32,103,117,97,114,100]⟩),(12,⟨#[119,97,108,107,32,99,104,101,99,107]⟩),(13,⟨#[119,97,108,107,32,110,101,120,116]⟩),(14,⟨#[119,97,108,107,32,117,110,108,105,110,107]⟩),(15,⟨#[119,97,108,107,32,115,104,105,102,116]⟩),(16,⟨#[114,101,97,100,32,115,116,97,109,112]⟩),(17,⟨#[114,101,97,100,32,99,108,111,99,107]⟩),(18,⟨#[114,101,97,100,32,104,101,108,112]⟩),(19,⟨#[114,101,97,100,32,118,97,108,117,101]⟩),(20,⟨#[114,101,97,100,32,99,108,101,97,114]⟩),(21,⟨#[114,101,97,100,32,100,111,110,101]⟩),(30,⟨#[119,114,105,116,101,32,97,114,101,110,97]⟩),(31,⟨#[119,114,105,116,101,32,116,97,107,101]⟩),(32,⟨#[119,114,105,116,101,32,118,97,108,117,101]⟩),(33,⟨#[119,114,105,116,101,32,114,101,115,101,116]⟩),(34,⟨#[119,114,105,116,101,32,103,117,97,114,100]⟩),(35,⟨#[119,114,105,116,101,32,104,101,97,100]⟩),(36,⟨#[119,114,105,116,101,32,104,97,122,97,114,100]⟩),(37,⟨#[119,114,105,116,101,32,99,104,101,99,107]⟩),(38,⟨#[119,114,105,116,101,32,115,116,97,109,112]⟩),(39,⟨#[119,114,105,116,101,32,99,108,111,99,107]⟩),(40,⟨#[119,114,105,116,101,32,104,101,108,112]⟩),(41,⟨#[119,114,105,116,101,32,108,105,110,107]⟩),(42,⟨#[119,114,105,116,101,32,112,117,98,108,105,115,104]⟩),(43,⟨#[119,114,105,116,101,32,111,119,110,32,99,108,111,99,107]⟩),(44,⟨#[119,114,105,116,101,32,111,119,110,32,115,116,97,109,112]⟩),(45,⟨#[119,114,105,116,101,32,114,101,116,105,114,101]⟩),(46,⟨#[119,114,105,116,101,32,99,108,101,97,114]⟩),(47,⟨#[119,114,105,116,101,32,100,111,110,101]⟩),(50,⟨#[115,99,97,110,32,97,110,110,111,117,110,99,101,100]⟩),(60,⟨#[109,97,114,107,32,108,111,97,100]⟩),(61,⟨#[109,97,114,107,32,115,119,97,112]⟩),(62,⟨#[102,108,117,115,104,32,99,108,101,97,114]⟩),(63,⟨#[102,108,117,115,104,32,100,111,110,101]⟩),(70,⟨#[115,99,97,110,32,104,97,122,97,114,100,115]⟩),(80,⟨#[101,110,100,32,99,108,101,97,114]⟩)]
theorem Xsm:∃ l,l=Xmy:=⟨_,rfl⟩
@[irreducible] noncomputable def Xdu:List (Int×ByteArray):=Classical.choose Xsm
theorem Xdv:Xdu=Xmy:=by unfold Xdu;exact Classical.choose_spec Xsm
def Xku (pc:Int):List (Int×ByteArray)→ByteArray
 | []=>⟨#[]⟩
 | p::l=>bif pc==p.1 then p.2 else Xku pc l
noncomputable def Xj1 (pc:Int):ByteArray:=Xku pc Xdu
noncomputable def Xfs (pc:Int):Bool:=!((Xj1 pc).toList==(⟨#[]⟩:ByteArray).toList)
theorem Xpa:Xdu.length=43:=by rw [Xdv];rfl
abbrev tA1 (p:Int×ByteArray):List AV:=[.int .i64 p.1]
abbrev tA2 (p:Int×ByteArray):List AV:=[.str p.2]
theorem X2g {c:Bool} {X Y:R} {a b:ByteArray} (h1:X=some ⟨.str a,[]⟩) (h2:Y=some ⟨.str b,[]⟩):br c X Y=some ⟨.str (bif c then a else b),[]⟩:=by
 cases c
 ·rw [Wk];exact h2
 ·rw [Vn];exact h1
theorem Xql {n:Nat}:callP cfg (n+1) 358 []=some ⟨.lst 1 (Xdu.map tA1),[]⟩:=by
 rw [Xa]
 rw [Xdv]
 refine go ?_
 try with_reducible rfl
 rfl
theorem Xmz {n:Nat}:callP cfg (n+1) 359 []=some ⟨.lst 1 (Xdu.map tA2),[]⟩:=by
 rw [Xa]
 rw [Xdv]
 refine go ?_
 try with_reducible rfl
 rfl
theorem Xns {n:Nat} {pc:Int}:callP cfg (n+2) 329 [.int .i64 pc]=some ⟨.str (Xj1 pc),[]⟩:=by
 rw [Xa]
 have fq1:=@Xql
 refine go ?_
 clear fq1
 refine (Xb (fun e k=>e.set 4 (.int .i64 (k:Int))) (fun h _=>h) (fun k=>some ⟨.str (Xku pc (Xdu.drop k)),[]⟩) Xdu.length (by rw [Xpa];decide) rfl ?_).trans rfl
 intro k f hk IH
 by_cases hlt:k<Xdu.length
 ·have hl43:=Xpa
  have e1:=Xf (f:=tA1) hlt
  have e1':=Xf (f:=tA2) hlt
  have e2:=Xg k
  have r1:=Xe (f:=tA1) hlt
  have r2:=Xe (f:=tA2) hlt
  have hw:=Xv (k:=k) (by omega)
  by_cases hv:(pc==(Xdu.getD k default).1)=true
  ·have e4:((Xdu.getD k default).1==pc)=true:=by rw [beq_iff_eq] at hv ⊢;exact hv.symm
   have fq1:=@Xmz
   refine go ?_
   clear fq1
   try with_reducible rfl
   rw [Xq hlt,Xku,hv];rfl
  ·have hv':(pc==(Xdu.getD k default).1)=false:=by simpa using hv
   have e4:((Xdu.getD k default).1==pc)=false:=by rw [beq_eq_false_iff_ne] at hv' ⊢;exact fun e=>hv' e.symm
   refine go ?_
   try with_reducible rfl
   refine (IH hlt _ _ (by rw [hw];rfl) rfl).trans ?_
   rw [Xq hlt,Xku,hv'];rfl
 ·have e1:=Xh (f:=tA1) (Nat.le_of_not_lt hlt)
  rw [List.drop_eq_nil_of_le (by omega)]
  refine go ?_
  try with_reducible rfl
  rfl
set_option maxHeartbeats 2000000 in
theorem Xnt {n:Nat} {pc:Int}:callP cfg (n+1) 321 [.int .i64 pc]=some ⟨.str (Xj1 pc),[]⟩:=by
 rw [Xa]
 unfold Xj1
 rw [Xdv]
 repeat' ((conv=>lhs;whnf);first | (with_reducible refine Vb.trans ?_) | (with_reducible refine V1.trans ?_) | (with_reducible refine Xcb.trans ?_) | (with_reducible refine V2.trans ?_) | (with_reducible refine Qx.trans ?_) | (with_reducible refine Up.trans ?_) | (with_reducible refine Qy.trans ?_) | (with_reducible refine Qz.trans ?_) | (with_reducible refine Xcc.trans ?_) | (with_reducible refine Qv.trans ?_) | (with_reducible refine Qw.trans ?_) | (with_reducible refine Wl.trans ?_) | (with_reducible refine Vc.trans ?_) | (with_reducible refine (Vn _ _).trans ?_) | (with_reducible refine (Wk _ _).trans ?_) | (with_reducible refine (Xn (by assumption)).trans ?_) | (with_reducible refine (Uk (by assumption)).trans ?_) | (with_reducible refine (Xo8 (by assumption)).trans ?_) | (with_reducible refine (Xo9 (by assumption)).trans ?_) | (with_reducible refine (Qb _ _ _).trans ?_) | (with_reducible refine (Qc _ _ _).trans ?_) | (refine X2g ?_ ?_) | fail)
 all_goals (conv=>lhs;whnf)
 all_goals rfl
theorem Qo {n:Nat} {pc:Int}:callP cfg (n+3) 278 [.int .i64 pc]=some ⟨.bool (Xfs pc),[]⟩:=by
 rw [Xa]
 have fq1:=@Xns
 refine go ?_
 clear fq1
 try with_reducible rfl
 rfl
theorem Qp {n:Nat} {pc:Int}:callP cfg (n+2) 264 [.int .i64 pc]=some ⟨.bool (Xfs pc),[]⟩:=by
 rw [Xa]
 have fq1:=@Xnt
 refine go ?_
 clear fq1
 try with_reducible rfl
 rfl
theorem Xm {c:Cf} (h:Yp c=true):(1≤c.th∧c.th≤4)∧(1≤c.keys∧c.keys≤4)∧(1≤c.cap∧c.cap≤24)∧(1≤c.b∧c.b≤4)∧(0≤c.p∧c.p≤2)∧(1≤c.cm∧c.cm≤99):=by
 unfold Yp at h
 simp only [Bool.and_eq_true,decide_eq_true_eq] at h
 omega
def ccB (c:Cf):Int:=if Yp c=true then 2+3*c.th+c.keys+3*c.cap else 0
def X2 (c:Cf) (k:Int):Int:=if Yp c=true∧0≤k∧k≤c.keys - 1 then 2+3*c.th+k else -1
def ncB (c:Cf) (i f:Int):Int:=if Yp c=true∧(0≤i∧i≤c.cap - 1)∧0≤f∧f≤2 then 2+3*c.th+c.keys+3*i+f else -1
def Y4 (c:Cf) (h:Int):Bool:=isH h&&decide (idxB h<c.cap)
def lnkB (c:Cf) (h:Int):Bool:=decide (h=0)||Y4 c h&&!isMk h
def Vg (c:Cf) (h:Int):Bool:=decide (unmk h=0)||isH (unmk h)&&decide (idxB (unmk h)<c.cap)
theorem Xy {h:Int} (hh:I64 h):I64 (unmk h):=by
 unfold unmk
 split
 ·rename_i hm
  have:=Xfq hm
  have:=hh.2
  unfold I64;omega
 ·exact hh
theorem Xzx {h:Int}:isMk (unmk h)=false:=by
 unfold unmk
 split
 ·rename_i hm
  unfold isMk at hm ⊢
  rcases Bool.or_eq_true_iff.1 hm with h1 | h1
  ·have:=of_decide_eq_true h1
   subst this
   decide
  ·obtain ⟨h2,h3⟩:=Bool.and_eq_true_iff.1 h1
   have:=Xaq h2
   have:=of_decide_eq_true h3
   have e1:decide (h - 1=1)=false:=decide_eq_false (by omega)
   have e2:decide ((h - 1) % 2=1)=false:=decide_eq_false (by omega)
   rw [e1,e2];simp
 ·rename_i hm;simpa using hm
theorem Wm {c:Cf} {h:Int}:lnkB c (unmk h)=Vg c h:=by
 unfold lnkB Vg Y4
 rw [Xzx];simp
theorem Xdw {c:Cf} {h:Int}:(Vg c h&&!isMk h)=lnkB c h:=by
 cases hm:isMk h with
 | true =>
   have h1:h≠0:=fun e=>by subst e;revert hm;decide
   unfold lnkB;rw [hm];simp [h1]
 | false =>
   have e:unmk h=h:=by unfold unmk;rw [if_neg (by rw [hm];simp)]
   unfold lnkB Vg Y4;rw [e,hm];simp
abbrev Wh (c:Cf) (e:Ent):Bool:=Zt e&&decide (e.key<c.keys)&&Y4 c e.h
def Xm0 (c:Cf) (l:List Ent):Bool:=decide (l.length≤100)&&l.all (Wh c)
def Xco (c:Cf) (t:Th):Bool:=(!(decide (t.pc=60)||decide (t.pc=61))||decide (t.work.length≠0))&&(!decide (t.pc=50)||inB t.pos 0 (c.th - 1))&&(!decide (t.pc=70)||inB t.pos 0 (2*c.th - 1))
def Xdh (c:Cf) (t:Th):Bool:=lnkB c t.node&&lnkB c t.prev&&lnkB c t.curr&&Vg c t.next
def opsB (c:Cf) (t:Th):Bool:=decide (t.pc=0)||Vx t.op&&decide (t.op.key<c.keys)
def fB (c:Cf) (xs:List Int):Bool:=xs.all fun i=>inB i 0 (c.cap - 1)
def lB (c:Cf) (xs:List Int):Bool:=xs.all (Y4 c)
def lhB (c:Cf) (xs:List Int):Bool:=lB c xs&&decide (xs.length≤100)
def Xie (t:Th):Bool:=decide (t.free.length≤100)&&decide (t.limbo.length≤100)&&decide (t.found.length≤100)
noncomputable def thB (c:Cf) (t:Th):Bool:=Xfs t.pc&&opsB c t&&Xco c t&&Xdh c t&&inB t.snap 0 99&&Xie t&&Xm0 c t.buf&&Xm0 c t.work&&fB c t.free&&lB c t.limbo
def Th.i64 (t:Th):Prop:=I64 t.node∧I64 t.prev∧I64 t.curr∧I64 t.next∧(∀ e∈t.buf,I64 e.h)∧(∀ e∈t.work,I64 e.h)∧∀ h∈t.limbo,I64 h
def idxF {α:Type} (p:α→Bool) (k:Nat):List α→Int
 | []=>-1
 | x::l=>if p x=true then k else idxF p (k+1) l
theorem V5 {α:Type} (p:α→Bool):∀ (l:List α) (k:Nat),decide (0≤idxF p k l)=l.any p
 | [],k=>by simp [idxF]
 | x::l,k=>by
   unfold idxF
   cases h:p x with
   | true=>simp [h]
   | false=>simp [h,V5 p l (k+1)]
theorem W6 {n:Nat} {c:Cf}:callP cfg (n+3) 193 [.agg (cfA c)]=some ⟨.int .i64 (ccB c),[]⟩:=by
 rw [Xa]
 by_cases hc:Yp c=true
 ·have hb:=Xm hc
  have fq1:=@X0
  refine go ?_
  clear fq1
  try with_reducible rfl
  refine okI ?_
  unfold ccB;rw [if_pos hc]
  simp only [IntKind.wrap_i64];omega
 ·have hc':Yp c=false:=by simpa using hc
  have fq1:=@X0
  refine go ?_
  clear fq1
  try with_reducible rfl
  refine okI ?_
  unfold ccB;rw [if_neg hc]
theorem Yy {n:Nat} {c:Cf}:callP cfg (n+3) 170 [.agg (cfA c)]=some ⟨.int .i64 (ccB c),[]⟩:=by
 rw [Xa]
 by_cases hc:Yp c=true
 ·have hb:=Xm hc
  have fq1:=@Xx
  refine go ?_
  clear fq1
  try with_reducible rfl
  refine okI ?_
  unfold ccB;rw [if_pos hc]
  simp only [IntKind.wrap_i64];omega
 ·have hc':Yp c=false:=by simpa using hc
  have fq1:=@Xx
  refine go ?_
  clear fq1
  try with_reducible rfl
  refine okI ?_
  unfold ccB;rw [if_neg hc]
theorem Ui {n:Nat} {c:Cf} {k:Int} (hk:0≤k∧k<4):callP cfg (n+3) 195 [.agg (cfA c),.int .i64 k]=some ⟨.int .i64 (X2 c k),[]⟩:=by
 rw [Xa]
 unfold X2
 by_cases hc:Yp c=true
 ·have hb:=Xm hc
  have wk:IntKind.i64.wrap (c.keys - 1)=c.keys - 1:=Xc (by omega) (by omega)
  by_cases hi:k≤c.keys - 1
  ·have e0:(decide (0≤k)&&decide (k≤IntKind.i64.wrap (c.keys - 1)))=true:=by rw [wk];simp;omega
   have fq1:=@X0
   have fq2:=@Xk
   refine go ?_
   clear fq1 fq2
   try with_reducible rfl
   refine okI ?_
   rw [if_pos ⟨hc,hk.1,hi⟩]
   simp only [IntKind.wrap_i64];omega
  ·have e0:(decide (0≤k)&&decide (k≤IntKind.i64.wrap (c.keys - 1)))=false:=by rw [wk];simp;omega
   have fq1:=@X0
   have fq2:=@Xk
   refine go ?_
   clear fq1 fq2
   try with_reducible rfl
   refine okI ?_
   rw [if_neg (fun h=>hi h.2.2)]
 ·have hc':Yp c=false:=by simpa using hc
  have fq1:=@X0
  refine go ?_
  clear fq1
  try with_reducible rfl
  refine okI ?_
  rw [if_neg (fun h=>hc h.1)]
theorem Qf {n:Nat} {c:Cf} {k:Int} (hk:0≤k∧k<4):callP cfg (n+3) 172 [.agg (cfA c),.int .i64 k]=some ⟨.int .i64 (X2 c k),[]⟩:=by
 rw [Xa]
 unfold X2
 by_cases hc:Yp c=true
 ·have hb:=Xm hc
  have wk:IntKind.i64.wrap (c.keys - 1)=c.keys - 1:=Xc (by omega) (by omega)
  by_cases hi:k≤c.keys - 1
  ·have e0:(decide (0≤k)&&decide (k≤IntKind.i64.wrap (c.keys - 1)))=true:=by rw [wk];simp;omega
   have fq1:=@Xx
   have fq2:=@X1
   refine go ?_
   clear fq1 fq2
   try with_reducible rfl
   refine okI ?_
   rw [if_pos ⟨hc,hk.1,hi⟩]
   simp only [IntKind.wrap_i64];omega
  ·have e0:(decide (0≤k)&&decide (k≤IntKind.i64.wrap (c.keys - 1)))=false:=by rw [wk];simp;omega
   have fq1:=@Xx
   have fq2:=@X1
   refine go ?_
   clear fq1 fq2
   try with_reducible rfl
   refine okI ?_
   rw [if_neg (fun h=>hi h.2.2)]
 ·have hc':Yp c=false:=by simpa using hc
  have fq1:=@Xx
  refine go ?_
  clear fq1
  try with_reducible rfl
  refine okI ?_
  rw [if_neg (fun h=>hc h.1)]
theorem Wb {n:Nat} {c:Cf} {i f:Int} (hi0:0≤i∧i<24) (hf:0≤f∧f≤2):callP cfg (n+3) 198 [.agg (cfA c),.int .i64 i,.int .i64 f]=some ⟨.int .i64 (ncB c i f),[]⟩:=by
 rw [Xa]
 unfold ncB
 by_cases hc:Yp c=true
 ·have hb:=Xm hc
  have wk:IntKind.i64.wrap (c.cap - 1)=c.cap - 1:=Xc (by omega) (by omega)
  have e1:(decide (0≤f)&&decide (f≤2))=true:=by simp;omega
  by_cases hi:i≤c.cap - 1
  ·have e0:(decide (0≤i)&&decide (i≤IntKind.i64.wrap (c.cap - 1)))=true:=by rw [wk];simp;omega
   have fq1:=@X0
   have fq2:=@Xk
   refine go ?_
   clear fq1 fq2
   try with_reducible rfl
   refine okI ?_
   rw [if_pos ⟨hc,⟨hi0.1,hi⟩,hf⟩]
   simp only [IntKind.wrap_i64];omega
  ·have e0:(decide (0≤i)&&decide (i≤IntKind.i64.wrap (c.cap - 1)))=false:=by rw [wk];simp;omega
   have fq1:=@X0
   have fq2:=@Xk
   refine go ?_
   clear fq1 fq2
   try with_reducible rfl
   refine okI ?_
   rw [if_neg (fun h=>hi h.2.1.2)]
 ·have hc':Yp c=false:=by simpa using hc
  have fq1:=@X0
  refine go ?_
  clear fq1
  try with_reducible rfl
  refine okI ?_
  rw [if_neg (fun h=>hc h.1)]
theorem Wc {n:Nat} {c:Cf} {i f:Int} (hi0:0≤i∧i<24) (hf:0≤f∧f≤2):callP cfg (n+3) 173 [.agg (cfA c),.int .i64 i,.int .i64 f]=some ⟨.int .i64 (ncB c i f),[]⟩:=by
 rw [Xa]
 unfold ncB
 by_cases hc:Yp c=true
 ·have hb:=Xm hc
  have wk:IntKind.i64.wrap (c.cap - 1)=c.cap - 1:=Xc (by omega) (by omega)
  have e1:(decide (0≤f)&&decide (f≤2))=true:=by simp;omega
  by_cases hi:i≤c.cap - 1
  ·have e0:(decide (0≤i)&&decide (i≤IntKind.i64.wrap (c.cap - 1)))=true:=by rw [wk];simp;omega
   have fq1:=@Xx
   have fq2:=@X1
   refine go ?_
   clear fq1 fq2
   try with_reducible rfl
   refine okI ?_
   rw [if_pos ⟨hc,⟨hi0.1,hi⟩,hf⟩]
   simp only [IntKind.wrap_i64];omega
  ·have e0:(decide (0≤i)&&decide (i≤IntKind.i64.wrap (c.cap - 1)))=false:=by rw [wk];simp;omega
   have fq1:=@Xx
   have fq2:=@X1
   refine go ?_
   clear fq1 fq2
   try with_reducible rfl
   refine okI ?_
   rw [if_neg (fun h=>hi h.2.1.2)]
 ·have hc':Yp c=false:=by simpa using hc
  have fq1:=@Xx
  refine go ?_
  clear fq1
  try with_reducible rfl
  refine okI ?_
  rw [if_neg (fun h=>hc h.1)]
theorem X3 {n:Nat} {c:Cf} {h:Int} (hh:I64 h):callP cfg (n+4) 196 [.agg (cfA c),.int .i64 h]=some ⟨.bool (Vg c h),[]⟩:=by
 rw [Xa]
 have hu:=Xy hh
 have fq1:=fun {n:Nat}=>Xbh (n:=n) hh
 have fq2:=fun {n:Nat}=>Yj (n:=n) hu
 have fq3:=fun {n:Nat}=>X8 (n:=n) hu
 refine goS ?_
 clear fq1 fq2 fq3
 repeat' (refine Y9 (fun _=>?_) (fun _=>?_))
 all_goals (conv=>lhs;whnf)
 all_goals (refine okB ?_;unfold Vg;simp_all)
theorem Qd {n:Nat} {c:Cf} {h:Int} (hh:I64 h):callP cfg (n+3) 261 [.agg (cfA c),.int .i64 h]=some ⟨.bool (Y4 c h),[]⟩:=by
 rw [Xa]
 have fq1:=fun {n:Nat}=>Wq (n:=n) hh
 have fq2:=fun {n:Nat}=>Yo (n:=n) hh
 refine goS ?_
 clear fq1 fq2
 repeat' (refine Y9 (fun _=>?_) (fun _=>?_))
 all_goals (conv=>lhs;whnf)
 all_goals (refine okB ?_;unfold Y4;simp_all)
theorem X7 {n:Nat} {c:Cf} {h:Int} (hh:I64 h):callP cfg (n+4) 171 [.agg (cfA c),.int .i64 h]=some ⟨.bool (lnkB c h),[]⟩:=by
 rw [Xa]
 have fq1:=fun {n:Nat} {c:Cf}=>Qd (n:=n) (c:=c) hh
 have fq2:=fun {n:Nat}=>Uh (n:=n) hh
 refine goS ?_
 clear fq1 fq2
 repeat' (refine Y9 (fun _=>?_) (fun _=>?_))
 all_goals (conv=>lhs;whnf)
 all_goals (refine okB ?_;unfold lnkB;simp_all)
theorem W7 {n:Nat} {c:Cf} {xs:List Int} (hx:xs.length≤maxLen) (hxs:∀ h∈xs,I64 h):callP cfg (n+3) 279 [.agg (cfA c),Xl xs]=some ⟨.bool (lhB c xs),[]⟩:=by
 rw [Xa]
 unfold maxLen at hx
 unfold lhB lB
 refine go ?_
 refine (Xb (fun e k=>e.set 5 (.int .i64 (k:Int))) (fun h _=>h) (fun k=>some ⟨.bool ((xs.drop k).all (Y4 c)&&decide (xs.length≤100)),[]⟩) xs.length (by show _<18446744073709551616;omega) rfl ?_).trans (by simp)
 intro k f hk IH
 by_cases hlt:k<xs.length
 ·have e1:=Xf (f:=iA) hlt
  have e2:=Xg k
  have r1:=Xe (f:=iA) hlt
  have hw:=Xv (k:=k) (by omega)
  have hm:=hxs _ (Xi hlt)
  rw [Xq hlt,List.all_cons]
  by_cases h1:isH (xs.getD k default)=true
  ·by_cases h2:idxB (xs.getD k default)<c.cap
   ·have e4:decide (idxB (xs.getD k default)≥c.cap)=false:=decide_eq_false (by omega)
    have e5:Y4 c (xs.getD k default)=true:=by unfold Y4;rw [h1];simpa using h2
    have e6:(!isH (xs.getD k default))=false:=by rw [h1];rfl
    have fq1:=fun {n:Nat}=>Yj (n:=n) hm
    have fq2:=fun {n:Nat}=>X8 (n:=n) hm
    refine go ?_
    clear fq1 fq2
    try with_reducible rfl
    rw [e5,Bool.true_and]
    exact IH hlt _ _ (by rw [hw];rfl) rfl
   ·have e4:decide (idxB (xs.getD k default)≥c.cap)=true:=decide_eq_true (by omega)
    have e5:Y4 c (xs.getD k default)=false:=by unfold Y4;rw [h1];simpa using h2
    have e6:(!isH (xs.getD k default))=false:=by rw [h1];rfl
    rw [e5]
    have fq1:=fun {n:Nat}=>Yj (n:=n) hm
    have fq2:=fun {n:Nat}=>X8 (n:=n) hm
    refine go ?_
    clear fq1 fq2
    try with_reducible rfl
    rfl
  ·have h1':isH (xs.getD k default)=false:=by simpa using h1
   have e5:Y4 c (xs.getD k default)=false:=by unfold Y4;rw [h1'];rfl
   have e6:(!isH (xs.getD k default))=true:=by rw [h1'];rfl
   rw [e5]
   have fq1:=fun {n:Nat}=>Yj (n:=n) hm
   refine go ?_
   clear fq1
   try with_reducible rfl
   rfl
 ·have e1:=Xh (f:=iA) (Nat.le_of_not_lt hlt)
  rw [List.drop_eq_nil_of_le (by omega),List.all_nil,Bool.true_and]
  refine go ?_
  try with_reducible rfl
  refine okB ?_
  simp;omega
theorem Q5 {α:Type} {p:α→Bool}:∀ {l:List α},(l.any fun x=>!p x)=!l.all p
 | []=>rfl
 | x::l=>by rw [List.any_cons,List.all_cons,Q5,Bool.not_and]
theorem Xbs {n:Nat} {c:Cf} {e:Ent} (hh:I64 e.h):callP cfg (n+5) 323 [.agg (entA e),.pv (cfA c)]=some ⟨.bool (!Wh c e),[]⟩:=by
 rw [Xa]
 have fq1:=fun {n:Nat}=>Xfr (n:=n) hh
 have fq2:=fun {n:Nat} {c:Cf}=>Qd (n:=n) (c:=c) hh
 refine goS ?_
 clear fq1 fq2
 repeat' (refine Y9 (fun _=>?_) (fun _=>?_))
 all_goals (conv=>lhs;whnf)
 all_goals (refine okB ?_;first | (simp_all;done) | (simp_all;omega) | grind)
theorem Xc3 {n:Nat} {c:Cf} {i:Int} (hc:Yp c=true):callP cfg (n+2) 266 [.int .i64 i,.pv (cfA c)]=some ⟨.bool (!inB i 0 (c.cap - 1)),[]⟩:=by
 rw [Xa]
 have hb:=Xm hc
 have wk:IntKind.i64.wrap (c.cap - 1)=c.cap - 1:=Xc (by omega) (by omega)
 have fq1:=@X1
 refine go ?_
 clear fq1
 try with_reducible rfl
 rw [wk]
theorem Xc4 {n:Nat} {c:Cf} {h:Int} (hh:I64 h):callP cfg (n+4) 267 [.int .i64 h,.pv (cfA c)]=some ⟨.bool (!Y4 c h),[]⟩:=by
 rw [Xa]
 have fq1:=fun {n:Nat} {c:Cf}=>Qd (n:=n) (c:=c) hh
 refine go ?_
 clear fq1
 try with_reducible rfl
theorem X2h {n:Nat} {c:Cf} {xs:List Ent} (hx:xs.length≤maxLen) (hxs:∀ e∈xs,I64 e.h):callP cfg (n+6) 352 [Yu xs,.fn 323 [.pv (cfA c)]]=some ⟨.int .i64 (idxF (fun e=>!Wh c e) 0 xs),[]⟩:=by
 unfold maxLen at hx
 rw [Xa]
 refine go ?_
 refine (Xb (fun e k=>e.set 8 (.int .i64 (k:Int))) (fun h _=>h) (fun k=>some ⟨.int .i64 (idxF (fun e=>!Wh c e) k (xs.drop k)),[]⟩) xs.length (by show _<18446744073709551616;omega) rfl ?_).trans rfl
 intro k f hk IH
 by_cases hlt:k<xs.length
 ·have e1:=Xf (f:=entA) hlt
  have e2:=Xg k
  have r1:=Xe (f:=entA) hlt
  have hw:=Xv (k:=k) (by omega)
  have hm:=hxs _ (Xi hlt)
  rw [Xq hlt]
  by_cases hv:(fun e=>!Wh c e) (xs.getD k default)=true
  ·have hi:idxF (fun e=>!Wh c e) k (xs.getD k default::xs.drop (k+1))=(k:Int):=if_pos hv
   rw [hi]
   have fq1:=fun {n:Nat} {c:Cf}=>Xbs (n:=n) (c:=c) hm
   refine go ?_
   clear fq1
   try with_reducible rfl
  ·have hv':(fun e=>!Wh c e) (xs.getD k default)=false:=by simpa using hv
   have hi:idxF (fun e=>!Wh c e) k (xs.getD k default::xs.drop (k+1))=idxF (fun e=>!Wh c e) (k+1) (xs.drop (k+1)):=if_neg hv
   rw [hi]
   have fq1:=fun {n:Nat} {c:Cf}=>Xbs (n:=n) (c:=c) hm
   refine go ?_
   clear fq1
   try with_reducible rfl
   exact IH hlt _ _ (by rw [hw];rfl) rfl
 ·have e1:=Xh (f:=entA) (Nat.le_of_not_lt hlt)
  rw [List.drop_eq_nil_of_le (by omega)]
  refine go ?_
  try with_reducible rfl
  rfl
theorem X4o {n:Nat} {c:Cf} {xs:List Ent} (hx:xs.length≤maxLen) (hxs:∀ e∈xs,I64 e.h):callP cfg (n+7) 322 [Yu xs,.fn 323 [.pv (cfA c)]]=some ⟨.bool (xs.any (fun e=>!Wh c e)),[]⟩:=by
 rw [Xa]
 have fq1:=fun {n:Nat} {c:Cf}=>X2h (n:=n) (c:=c) hx hxs
 refine go ?_
 clear fq1
 try with_reducible rfl
 rw [←V5 _ _ 0]
theorem Xzy {n:Nat} {c:Cf} {xs:List Int} (hx:xs.length≤maxLen) (hxs:Yp c=true):callP cfg (n+3) 207 [Xl xs,.fn 266 [.pv (cfA c)]]=some ⟨.int .i64 (idxF (fun i=>!inB i 0 (c.cap - 1)) 0 xs),[]⟩:=by
 unfold maxLen at hx
 rw [Xa]
 refine go ?_
 refine (Xb (fun e k=>e.set 8 (.int .i64 (k:Int))) (fun h _=>h) (fun k=>some ⟨.int .i64 (idxF (fun i=>!inB i 0 (c.cap - 1)) k (xs.drop k)),[]⟩) xs.length (by show _<18446744073709551616;omega) rfl ?_).trans rfl
 intro k f hk IH
 by_cases hlt:k<xs.length
 ·have e1:=Xf (f:=iA) hlt
  have e2:=Xg k
  have r1:=Xe (f:=iA) hlt
  have hw:=Xv (k:=k) (by omega)
  rw [Xq hlt]
  by_cases hv:(fun i=>!inB i 0 (c.cap - 1)) (xs.getD k default)=true
  ·have hi:idxF (fun i=>!inB i 0 (c.cap - 1)) k (xs.getD k default::xs.drop (k+1))=(k:Int):=if_pos hv
   rw [hi]
   have fq1:=fun {n:Nat} {i:Int}=>Xc3 (n:=n) (i:=i) hxs
   refine go ?_
   clear fq1
   try with_reducible rfl
  ·have hv':(fun i=>!inB i 0 (c.cap - 1)) (xs.getD k default)=false:=by simpa using hv
   have hi:idxF (fun i=>!inB i 0 (c.cap - 1)) k (xs.getD k default::xs.drop (k+1))=idxF (fun i=>!inB i 0 (c.cap - 1)) (k+1) (xs.drop (k+1)):=if_neg hv
   rw [hi]
   have fq1:=fun {n:Nat} {i:Int}=>Xc3 (n:=n) (i:=i) hxs
   refine go ?_
   clear fq1
   try with_reducible rfl
   exact IH hlt _ _ (by rw [hw];rfl) rfl
 ·have e1:=Xh (f:=iA) (Nat.le_of_not_lt hlt)
  rw [List.drop_eq_nil_of_le (by omega)]
  refine go ?_
  try with_reducible rfl
  rfl
theorem Xgg {n:Nat} {c:Cf} {xs:List Int} (hx:xs.length≤maxLen) (hxs:Yp c=true):callP cfg (n+4) 138 [Xl xs,.fn 266 [.pv (cfA c)]]=some ⟨.bool (!fB c xs),[]⟩:=by
 rw [Xa]
 have fq1:=fun {n:Nat}=>Xzy (n:=n) hx hxs
 refine go ?_
 clear fq1
 try with_reducible rfl
 unfold fB;rw [←Q5];rw [←V5 _ _ 0]
theorem Xxi {n:Nat} {c:Cf} {xs:List Int} (hx:xs.length≤maxLen) (hxs:∀ h∈xs,I64 h):callP cfg (n+5) 207 [Xl xs,.fn 267 [.pv (cfA c)]]=some ⟨.int .i64 (idxF (fun h=>!Y4 c h) 0 xs),[]⟩:=by
 unfold maxLen at hx
 rw [Xa]
 refine go ?_
 refine (Xb (fun e k=>e.set 8 (.int .i64 (k:Int))) (fun h _=>h) (fun k=>some ⟨.int .i64 (idxF (fun h=>!Y4 c h) k (xs.drop k)),[]⟩) xs.length (by show _<18446744073709551616;omega) rfl ?_).trans rfl
 intro k f hk IH
 by_cases hlt:k<xs.length
 ·have e1:=Xf (f:=iA) hlt
  have e2:=Xg k
  have r1:=Xe (f:=iA) hlt
  have hw:=Xv (k:=k) (by omega)
  have hm:=hxs _ (Xi hlt)
  rw [Xq hlt]
  by_cases hv:(fun h=>!Y4 c h) (xs.getD k default)=true
  ·have hi:idxF (fun h=>!Y4 c h) k (xs.getD k default::xs.drop (k+1))=(k:Int):=if_pos hv
   rw [hi]
   have fq1:=fun {n:Nat} {c:Cf}=>Xc4 (n:=n) (c:=c) hm
   refine go ?_
   clear fq1
   try with_reducible rfl
  ·have hv':(fun h=>!Y4 c h) (xs.getD k default)=false:=by simpa using hv
   have hi:idxF (fun h=>!Y4 c h) k (xs.getD k default::xs.drop (k+1))=idxF (fun h=>!Y4 c h) (k+1) (xs.drop (k+1)):=if_neg hv
   rw [hi]
   have fq1:=fun {n:Nat} {c:Cf}=>Xc4 (n:=n) (c:=c) hm
   refine go ?_
   clear fq1
   try with_reducible rfl
   exact IH hlt _ _ (by rw [hw];rfl) rfl
 ·have e1:=Xh (f:=iA) (Nat.le_of_not_lt hlt)
  rw [List.drop_eq_nil_of_le (by omega)]
  refine go ?_
  try with_reducible rfl
  rfl
theorem Xdx {n:Nat} {c:Cf} {xs:List Int} (hx:xs.length≤maxLen) (hxs:∀ h∈xs,I64 h):callP cfg (n+6) 138 [Xl xs,.fn 267 [.pv (cfA c)]]=some ⟨.bool (!lB c xs),[]⟩:=by
 rw [Xa]
 have fq1:=fun {n:Nat} {c:Cf}=>Xxi (n:=n) (c:=c) hx hxs
 refine go ?_
 clear fq1
 try with_reducible rfl
 unfold lB;rw [←Q5];rw [←V5 _ _ 0]
theorem Yw {n:Nat} {c:Cf} {xs:List Ent} (hx:xs.length≤maxLen) (hxs:∀ e∈xs,I64 e.h):callP cfg (n+8) 265 [.agg (cfA c),Yu xs]=some ⟨.bool (Xm0 c xs),[]⟩:=by
 rw [Xa]
 unfold Xm0
 by_cases h1:xs.length≤100
 ·have e0:decide (((xs.map entA).length:Int)≤100)=true:=decide_eq_true (by rw [List.length_map];omega)
  have fq1:=fun {n:Nat} {c:Cf}=>X4o (n:=n) (c:=c) hx hxs
  refine go ?_
  clear fq1
  try with_reducible rfl
  refine okB ?_
  rw [Q5,Bool.not_not];simp [h1]
 ·have e0:decide (((xs.map entA).length:Int)≤100)=false:=decide_eq_false (by rw [List.length_map];omega)
  refine go ?_
  try with_reducible rfl
  refine okB ?_
  simp [h1]
end Go.Proofs.YtbploohjimpcaaaGreat.A
