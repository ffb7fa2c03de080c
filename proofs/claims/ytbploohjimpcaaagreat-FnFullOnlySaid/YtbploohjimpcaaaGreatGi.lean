/- What the program's functions answer (Gi): no condition. -/
import Derived.Test.YtbploohjimpcaaaGreatGd
import Derived.Test.YtbploohjimpcaaaGreatGh
import Derived.Test.YtbploohjimpcaaaGreatGg
set_option linter.unusedVariables false
set_option linter.unusedSimpArgs false
namespace Go.Proofs.YtbploohjimpcaaaGreat.A
open Go Go.Abs
set_option maxRecDepth 100000
theorem Xny {n:Nat} {b:Bool} {x y:Int}:callP cfg (n+1) 338 [.bool b,.int .i64 x,.int .i64 y]=some ⟨.int .i64 (bif b then x else y),[]⟩:=by
 rw [Xa]
 cases b
 ·refine go ?_
  try with_reducible rfl
  try rfl
 ·refine go ?_
  try with_reducible rfl
  try rfl
theorem Xgl {n:Nat} {c:Cf} {p:Int} (hc:Yp c=true) (hp:0≤p∧p<c.th):callP cfg (n+3) 230 [.agg (cfA c),.int .i64 p]=some ⟨.int .i64 (annB c p),[]⟩:=by
 rw [Xa]
 have hb:=Xm hc
 have wk:IntKind.i64.wrap (c.th - 1)=c.th - 1:=Xc (by omega) (by omega)
 have e0:(decide (0≤p)&&decide (p≤IntKind.i64.wrap (c.th - 1)))=true:=by rw [wk];simp;omega
 have w2:IntKind.i64.wrap (2+p)=2+p:=Xc (by omega) (by omega)
 have fq1:=@X0
 have fq2:=@Xk
 refine go ?_
 clear fq1 fq2
 try with_reducible rfl
 rw [w2,Xqo hc hp.1 hp.2]
theorem Xgm {n:Nat} {c:Cf} {p:Int} (hc:Yp c=true) (hp:0≤p∧p<c.th):callP cfg (n+3) 318 [.agg (cfA c),.int .i64 p]=some ⟨.int .i64 (annB c p),[]⟩:=by
 rw [Xa]
 have hb:=Xm hc
 have wk:IntKind.i64.wrap (c.th - 1)=c.th - 1:=Xc (by omega) (by omega)
 have e0:(decide (0≤p)&&decide (p≤IntKind.i64.wrap (c.th - 1)))=true:=by rw [wk];simp;omega
 have w2:IntKind.i64.wrap (2+p)=2+p:=Xc (by omega) (by omega)
 have fq1:=@Xx
 have fq2:=@X1
 refine go ?_
 clear fq1 fq2
 try with_reducible rfl
 rw [w2,Xqo hc hp.1 hp.2]
theorem Xac {n:Nat} {c:Cf} {p j:Int} (hc:Yp c=true) (hp:0≤p∧p<c.th) (hj:0≤j∧j≤1):callP cfg (n+3) 289 [.agg (cfA c),.int .i64 p,.int .i64 j]=some ⟨.int .i64 (hazB c p j),[]⟩:=by
 rw [Xa]
 have hb:=Xm hc
 have wk:IntKind.i64.wrap (c.th - 1)=c.th - 1:=Xc (by omega) (by omega)
 have e0:(decide (0≤p)&&decide (p≤IntKind.i64.wrap (c.th - 1)))=true:=by rw [wk];simp;omega
 have e1:(decide (0≤j)&&decide (j≤1))=true:=by simp;omega
 have w1:IntKind.i64.wrap (2+c.th)=2+c.th:=Xc (by omega) (by omega)
 have w2:IntKind.i64.wrap (2*p)=2*p:=Xc (by omega) (by omega)
 have w3:IntKind.i64.wrap (2+c.th+2*p)=2+c.th+2*p:=Xc (by omega) (by omega)
 have w4:IntKind.i64.wrap (2+c.th+2*p+j)=2+c.th+2*p+j:=Xc (by omega) (by omega)
 have fq1:=@X0
 have fq2:=@Xk
 refine go ?_
 clear fq1 fq2
 try with_reducible rfl
 rw [w1,w2,w3,w4,Xqp hc hp.1 hp.2 hj]
theorem Xad {n:Nat} {c:Cf} {p j:Int} (hc:Yp c=true) (hp:0≤p∧p<c.th) (hj:0≤j∧j≤1):callP cfg (n+3) 350 [.agg (cfA c),.int .i64 p,.int .i64 j]=some ⟨.int .i64 (hazB c p j),[]⟩:=by
 rw [Xa]
 have hb:=Xm hc
 have wk:IntKind.i64.wrap (c.th - 1)=c.th - 1:=Xc (by omega) (by omega)
 have e0:(decide (0≤p)&&decide (p≤IntKind.i64.wrap (c.th - 1)))=true:=by rw [wk];simp;omega
 have e1:(decide (0≤j)&&decide (j≤1))=true:=by simp;omega
 have w1:IntKind.i64.wrap (2+c.th)=2+c.th:=Xc (by omega) (by omega)
 have w2:IntKind.i64.wrap (2*p)=2*p:=Xc (by omega) (by omega)
 have w3:IntKind.i64.wrap (2+c.th+2*p)=2+c.th+2*p:=Xc (by omega) (by omega)
 have w4:IntKind.i64.wrap (2+c.th+2*p+j)=2+c.th+2*p+j:=Xc (by omega) (by omega)
 have fq1:=@Xx
 have fq2:=@X1
 refine go ?_
 clear fq1 fq2
 try with_reducible rfl
 rw [w1,w2,w3,w4,Xqp hc hp.1 hp.2 hj]
theorem Xnz {n:Nat} {h:Int} (hh:I64 h):callP cfg (n+3) 349 [.int .i64 h]=some ⟨.int .i64 (mrk h),[]⟩:=by
 rw [Xa]
 by_cases h0:h=0
 ·subst h0
  refine go ?_
  try with_reducible rfl
  try rfl
 ·have b0:(h==0)=false:=Xt h0
  by_cases h1:isH h=true
  ·have hg:=Xip h1
   have hm:=m2 (n:=h) (by omega)
   by_cases h2:h % 2=0
   ·have b2:(h.tmod 2==0)=true:=by rw [hm];exact Yk h2
    have w:IntKind.i64.wrap (h+1)=h+1:=Xc (by omega) (by omega)
    have fq1:=fun {n:Nat}=>Wq (n:=n) hh
    have x1:=@Xak
    refine go ?_
    clear fq1 x1
    try with_reducible rfl
    rw [w]
    unfold mrk
    rw [if_pos (.inr ⟨h1,h2⟩)]
   ·have b2:(h.tmod 2==0)=false:=by rw [hm];exact Xt h2
    have fq1:=fun {n:Nat}=>Wq (n:=n) hh
    have x1:=@Xak
    refine go ?_
    clear fq1 x1
    try with_reducible rfl
    unfold mrk
    rw [if_neg (fun e=>e.elim h0 fun e=>h2 e.2)]
  ·replace h1:isH h=false:=by simpa only [Bool.not_eq_true] using h1
   have fq1:=fun {n:Nat}=>Wq (n:=n) hh
   refine go ?_
   clear fq1
   try with_reducible rfl
   unfold mrk
   rw [if_neg (fun e=>e.elim h0 fun e=>by rw [h1] at e;exact absurd e.1 (by simp))]
theorem Xn0 {n:Nat} {h:Int} (hh:I64 h):callP cfg (n+2) 295 [.int .i64 h]=some ⟨.int .i64 (mrk h),[]⟩:=by
 rw [Xa]
 by_cases h0:h=0
 ·subst h0
  refine go ?_
  try with_reducible rfl
  try rfl
 ·have b0:(h==0)=false:=Xt h0
  by_cases h1:isH h=true
  ·have hg:=Xip h1
   have hm:=m2 (n:=h) (by omega)
   by_cases h2:h % 2=0
   ·have b2:(h.tmod 2==0)=true:=by rw [hm];exact Yk h2
    have w:IntKind.i64.wrap (h+1)=h+1:=Xc (by omega) (by omega)
    have fq1:=fun {n:Nat}=>Yj (n:=n) hh
    have x1:=@Xak
    refine go ?_
    clear fq1 x1
    try with_reducible rfl
    rw [w]
    unfold mrk
    rw [if_pos (.inr ⟨h1,h2⟩)]
   ·have b2:(h.tmod 2==0)=false:=by rw [hm];exact Xt h2
    have fq1:=fun {n:Nat}=>Yj (n:=n) hh
    have x1:=@Xak
    refine go ?_
    clear fq1 x1
    try with_reducible rfl
    unfold mrk
    rw [if_neg (fun e=>e.elim h0 fun e=>h2 e.2)]
  ·replace h1:isH h=false:=by simpa only [Bool.not_eq_true] using h1
   have fq1:=fun {n:Nat}=>Yj (n:=n) hh
   refine go ?_
   clear fq1
   try with_reducible rfl
   unfold mrk
   rw [if_neg (fun e=>e.elim h0 fun e=>by rw [h1] at e;exact absurd e.1 (by simp))]
theorem Xc7 {n:Nat} {i g:Int} (hi:0≤i∧i≤62) (hg:0≤g∧g≤9998):callP cfg (n+1) 260 [.int .i64 i,.int .i64 g]=some ⟨.int .i64 (mkH i g),[]⟩:=by
 rw [Xa]
 have w1:IntKind.i64.wrap (g*64)=g*64:=Xc (by omega) (by omega)
 have w2:IntKind.i64.wrap (g*64+i)=g*64+i:=Xc (by omega) (by omega)
 have w3:IntKind.i64.wrap (g*64+i+1)=g*64+i+1:=Xc (by omega) (by omega)
 have w4:IntKind.i64.wrap ((g*64+i+1)*2)=(g*64+i+1)*2:=Xc (by omega) (by omega)
 have e1:decide (i<0)=false:=decide_eq_false (by omega)
 have e2:decide (i>62)=false:=decide_eq_false (by omega)
 have e3:decide (g<0)=false:=decide_eq_false (by omega)
 have e4:decide (g>9999)=false:=decide_eq_false (by omega)
 refine go ?_
 try with_reducible rfl
 rw [w1,w2,w3,w4]
 unfold mkH
 rw [if_neg (by omega)]
theorem Xc8 {n:Nat} {i g:Int} (hi:0≤i∧i≤62) (hg:0≤g∧g≤9998):callP cfg (n+2) 234 [.int .i64 i,.int .i64 g]=some ⟨.int .i64 (mkH i g),[]⟩:=by
 rw [Xa]
 have w1:IntKind.i64.wrap (g*64)=g*64:=Xc (by omega) (by omega)
 have w2:IntKind.i64.wrap (g*64+i)=g*64+i:=Xc (by omega) (by omega)
 have w3:IntKind.i64.wrap (g*64+i+1)=g*64+i+1:=Xc (by omega) (by omega)
 have w4:IntKind.i64.wrap ((g*64+i+1)*2)=(g*64+i+1)*2:=Xc (by omega) (by omega)
 have e1:(decide (0≤i)&&decide (i≤62))=true:=by simp;omega
 have e2:(decide (0≤g)&&decide (g≤9999))=true:=by simp;omega
 have fq1:=@Xk
 refine go ?_
 clear fq1
 try with_reducible rfl
 rw [w1,w2,w3,w4]
 unfold mkH
 rw [if_neg (by omega)]
theorem Z4 {n:Nat} {k:Int}:callP cfg (n+2) 245 [.int .i64 k]=some ⟨.bool (inB k 1 5),[]⟩:=by
 rw [Xa]
 have fq1:=@X1
 refine go ?_
 clear fq1
 try with_reducible rfl
theorem Wr {n:Nat} {k:Int}:callP cfg (n+2) 247 [.int .i64 k]=some ⟨.bool (inB k 10 15),[]⟩:=by
 rw [Xa]
 have fq1:=@X1
 refine go ?_
 clear fq1
 try with_reducible rfl
theorem Vj {n:Nat} {k:Int}:callP cfg (n+2) 249 [.int .i64 k]=some ⟨.bool (inB k 16 21),[]⟩:=by
 rw [Xa]
 have fq1:=@X1
 refine go ?_
 clear fq1
 try with_reducible rfl
theorem Ua {n:Nat} {k:Int}:callP cfg (n+2) 251 [.int .i64 k]=some ⟨.bool (inB k 30 47),[]⟩:=by
 rw [Xa]
 have fq1:=@X1
 refine go ?_
 clear fq1
 try with_reducible rfl
theorem U1 {n:Nat} {k:Int}:callP cfg (n+2) 253 [.int .i64 k]=some ⟨.bool (k==50||inB k 60 63),[]⟩:=by
 rw [Xa]
 by_cases h:k=50
 ·subst h
  refine go ?_
  try with_reducible rfl
  try rfl
 ·have b:(k==50)=false:=Xt h
  rw [b,Bool.false_or]
  have fq1:=@X1
  refine go ?_
  clear fq1
  try with_reducible rfl
theorem Xat {n:Nat} {k:Int}:callP cfg (n+2) 216 [.int .i64 k]=some ⟨.bool (inB k 1 5),[]⟩:=by
 rw [Xa]
 have fq1:=@Xk
 refine go ?_
 clear fq1
 try with_reducible rfl
theorem Xbl {n:Nat} {k:Int}:callP cfg (n+2) 218 [.int .i64 k]=some ⟨.bool (inB k 10 15),[]⟩:=by
 rw [Xa]
 have fq1:=@Xk
 refine go ?_
 clear fq1
 try with_reducible rfl
theorem Xbm {n:Nat} {k:Int}:callP cfg (n+2) 220 [.int .i64 k]=some ⟨.bool (inB k 16 21),[]⟩:=by
 rw [Xa]
 have fq1:=@Xk
 refine go ?_
 clear fq1
 try with_reducible rfl
theorem Xau {n:Nat} {k:Int}:callP cfg (n+2) 222 [.int .i64 k]=some ⟨.bool (inB k 30 47),[]⟩:=by
 rw [Xa]
 have fq1:=@Xk
 refine go ?_
 clear fq1
 try with_reducible rfl
theorem Xav {n:Nat} {k:Int}:callP cfg (n+2) 226 [.int .i64 k]=some ⟨.bool (k==50||inB k 60 63),[]⟩:=by
 rw [Xa]
 by_cases h:k=50
 ·subst h
  refine go ?_
  try with_reducible rfl
  try rfl
 ·have b:(k==50)=false:=Xt h
  rw [b,Bool.false_or]
  have fq1:=@Xk
  refine go ?_
  clear fq1
  try with_reducible rfl
theorem Xis {n:Nat} {c:Cf} (hc:Yp c=true):callP cfg (n+3) 369 [.agg (cfA c)]=some ⟨.int .i64 (2*c.th+c.b),[]⟩:=by
 rw [Xa]
 have hb:=Xm hc
 have w1:IntKind.i64.wrap (2*c.th)=2*c.th:=Xc (by omega) (by omega)
 have w2:IntKind.i64.wrap (2*c.th+c.b)=2*c.th+c.b:=Xc (by omega) (by omega)
 have fq1:=@Xx
 refine go ?_
 clear fq1
 try with_reducible rfl
 rw [w1,w2]
theorem Xit {n:Nat} {c:Cf} (hc:Yp c=true):callP cfg (n+3) 332 [.agg (cfA c)]=some ⟨.int .i64 (2*c.th+c.b),[]⟩:=by
 rw [Xa]
 have hb:=Xm hc
 have w1:IntKind.i64.wrap (2*c.th)=2*c.th:=Xc (by omega) (by omega)
 have w2:IntKind.i64.wrap (2*c.th+c.b)=2*c.th+c.b:=Xc (by omega) (by omega)
 have fq1:=@X0
 refine go ?_
 clear fq1
 try with_reducible rfl
 rw [w1,w2]
theorem Xb0 {xs:List Int} {a:Int}:ldL xs a=if 0≤a∧a<(xs.length:Int) then xs.getD a.toNat default else 0:=rfl
theorem Xbn {n:Nat} {xs:List Int} {a:Int} (hx:xs.length≤1048576):callP cfg (n+2) 365 [Xl xs,.int .i64 a]=some ⟨.tup [.int .i64 (ldL xs a),.bool (decide (0≤a)&&decide (a≤(xs.length:Int) - 1))],[]⟩:=by
 rw [Xa]
 have wk:IntKind.i64.wrap (((xs.map iA).length:Int) - 1)=(xs.length:Int) - 1:=by rw [List.length_map];exact Xc (by omega) (by omega)
 by_cases ha:0≤a∧a<(xs.length:Int)
 ·have e0:(decide (0≤a)&&decide (a≤IntKind.i64.wrap (((xs.map iA).length:Int) - 1)))=true:=by rw [wk];simp;omega
  have e1:(decide (0≤a)&&decide (a≤(xs.length:Int) - 1))=true:=by simp;omega
  have e2:decide (0≤a)=true:=decide_eq_true ha.1
  have e3:decide (a<((xs.map iA).length:Int))=true:=by rw [List.length_map];exact decide_eq_true ha.2
  have r1:(xs.map iA)[a.toNat]?=some (iA (xs.getD a.toNat default)):=Xe (by omega)
  rw [e1,Xb0,if_pos ha]
  have fq1:=@X1
  refine go ?_
  clear fq1
  try with_reducible rfl
 ·have e0:(decide (0≤a)&&decide (a≤IntKind.i64.wrap (((xs.map iA).length:Int) - 1)))=false:=by rw [wk];simp;omega
  have e1:(decide (0≤a)&&decide (a≤(xs.length:Int) - 1))=false:=by simp;omega
  rw [e1,Xb0,if_neg ha]
  have fq1:=@X1
  refine go ?_
  clear fq1
  try with_reducible rfl
theorem Xm6 {n:Nat} {pk:Int} {t:Th} (hw:t.work.length≤1048576):callP cfg (n+1) 341 [.pv (thR pk t)]=some ⟨.int .i64 (wKey t),[]⟩:=by
 rw [Xa]
 unfold wKey
 by_cases h2:t.op.k=2
 ·have b:(t.op.k==2)=true:=Yk h2
  rw [if_pos h2]
  refine go ?_
  try with_reducible rfl
 ·have b:(t.op.k==2)=false:=Xt h2
  rw [if_neg h2]
  by_cases h0:t.work=[]
  ·have e:(((t.work.map entA).length:Int)==0)=true:=by rw [h0];rfl
   rw [h0]
   rw [h0] at e
   obtain ⟨a1,a2,a3,a4,a5,a6,a7,a8,a9,a10,a11,a12,a13,a14,a15,a16⟩:=t
   simp only at h0 b
   subst h0
   refine go ?_
   try with_reducible rfl
  ·obtain ⟨x,w,hx⟩:∃ x w,t.work=x::w:=by
    cases hh:t.work with
    | nil=>exact absurd hh h0
    | cons x w=>exact ⟨x,w,rfl⟩
   have e:(((t.work.map entA).length:Int)==0)=false:=by rw [hx];exact Xt (by simp only [List.map_cons,List.length_cons];omega)
   have e1:decide ((0:Int)<((t.work.map entA).length:Int))=true:=decide_eq_true (by rw [hx];simp only [List.map_cons,List.length_cons];omega)
   have r1:(t.work.map entA)[0]?=some (entA x):=by rw [hx];rfl
   rw [hx]
   dsimp only
   refine go ?_
   try with_reducible rfl
theorem Yi {n:Nat} {s:Sta} {p:Nat} (hs:staB s=true) (hr:s.room) (hi:s.i64) (hp:p<s.ths.length):callP cfg (n+14) 257 [.agg (staA s),.int .i64 (p:Int)]=some ⟨.bool true,[]⟩:=by
 rw [Xa]
 have hw1:IntKind.i64.wrap (((s.ths.map thA).length:Int) - 1)=(s.ths.length:Int) - 1:=by rw [List.length_map];exact Xc (by have:=hr.2.2.1;omega) (by have:=hr.2.2.1;omega)
 have g1:(decide (0≤(p:Int))&&decide ((p:Int)≤IntKind.i64.wrap (((s.ths.map thA).length:Int) - 1)))=true:=by rw [hw1];simp;omega
 have fq1:=fun {n:Nat}=>V7 (n:=n) hr hi
 have fq2:=@X1
 refine go ?_
 clear fq1 fq2
 rw [g1]
theorem Y8 {n:Nat} {s:Sta} {p:Nat} (hs:staB s=true) (hr:s.room) (hi:s.i64) (hp:p<s.ths.length):callP cfg (n+15) 244 [.agg (staA s),.int .i64 (p:Int)]=some ⟨.bool (runB s p),[]⟩:=by
 rw [Xa]
 have d1:=Xf (f:=thA) hp
 have d2:=Xg p
 have r1:=Xe (f:=thA) hp
 have fq1:=fun {n:Nat}=>Yi (n:=n) hs hr hi hp
 refine go ?_
 clear fq1
 refine okB ?_
 unfold runB
 by_cases h:(s.th p).pc=0
 ·rw [Yb h,decide_eq_false (by simpa using h)]
 ·rw [Zn h,decide_eq_true h]
end Go.Proofs.YtbploohjimpcaaaGreat.A
