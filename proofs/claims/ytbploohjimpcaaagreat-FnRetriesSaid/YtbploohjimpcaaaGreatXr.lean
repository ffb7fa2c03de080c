/- What the program's functions answer (Xr): no condition. -/
import Derived.Test.YtbploohjimpcaaaGreatGm
import Derived.Test.YtbploohjimpcaaaGreatGl
import Derived.Test.YtbploohjimpcaaaGreatGi
import Derived.Test.YtbploohjimpcaaaGreatGj
import Derived.Test.YtbploohjimpcaaaGreatGe
set_option linter.unusedVariables false
set_option linter.unusedSimpArgs false
namespace Go.Proofs.YtbploohjimpcaaaGreat.A
open Go Go.Abs
set_option maxRecDepth 100000
theorem okS2 {a b:List AV} {x:Int} (h:a=b):some (⟨.tup [.agg a,.int .i64 x],[]⟩:Res)=some ⟨.tup [.agg b,.int .i64 x],[]⟩:=by rw [h]
set_option maxHeartbeats 16000000 in
theorem We {n:Nat} {s:Sta} {p:Nat} {o:Op3} (hs:staB s=true) (hr:s.room) (hi:s.i64) (hp:p<s.ths.length) (ho:Vx o=true):callP cfg (n+15) 259 [.agg (staA s),.int .i64 (p:Int),.agg (opA o)]=some ⟨.int .i64 (refV s.c (s.th p) o),[]⟩:=by
 rw [Xa]
 obtain ⟨H,N,TT⟩:=Xfy.1 ⟨hs,hi.1⟩
 have T:TV s.c (s.th p):=TT _ (Xi hp)
 have hlt:=H.lt
 have hb:=Xm H.cf
 have hw1:IntKind.i64.wrap (((s.ths.map thA).length:Int) - 1)=(s.ths.length:Int) - 1:=by rw [List.length_map];exact Xc (by omega) (by omega)
 have g1:(decide (0≤(p:Int))&&decide ((p:Int)≤IntKind.i64.wrap (((s.ths.map thA).length:Int) - 1)))=true:=by rw [hw1];simp;omega
 have d1:=Xf (f:=thA) hp
 have d2:=Xg p
 have r1:=Xe (f:=thA) hp
 have hsn:=T.sn
 by_cases hkey:o.key≥s.c.keys
 ·rw [show refV s.c (s.th p) o=4 from by unfold refV;rw [if_pos hkey]]
  have b1:decide (o.key≥s.c.keys)=true:=decide_eq_true hkey
  have fq1:=fun {n:Nat}=>Yi (n:=n) hs hr hi hp
  have fq2:=@Ya
  refine go ?_
  clear fq1 fq2
  try with_reducible rfl
  try rfl
 ·by_cases hk1:o.k=1
  ·have hk2:¬o.k=2:=by omega
   have hk4:¬o.k=4:=by omega
   by_cases hz:(s.th p).snap=0
   ·rw [show refV s.c (s.th p) o=0 from by unfold refV;rw [if_neg hkey,if_neg (fun h=>h.2 hz),if_neg (fun h=>by have:=h.1;omega)]]
    have b1:decide (o.key≥s.c.keys)=false:=decide_eq_false hkey
    have k1:(o.k==1)=true:=Yk hk1
    have k2:(o.k==2)=false:=Xt hk2
    have k4:(o.k==4)=false:=Xt hk4
    have b2:((s.th p).snap !=0)=false:=Yb hz
    have b3:((s.th p).snap==0)=true:=Yk hz
    have fq1:=fun {n:Nat}=>Yi (n:=n) hs hr hi hp
    have fq2:=@Ya
    refine go ?_
    clear fq1 fq2
    try with_reducible rfl
    try rfl
   ·rw [show refV s.c (s.th p) o=6 from by unfold refV;rw [if_neg hkey,if_pos ⟨hk1,hz⟩]]
    have b1:decide (o.key≥s.c.keys)=false:=decide_eq_false hkey
    have k1:(o.k==1)=true:=Yk hk1
    have k2:(o.k==2)=false:=Xt hk2
    have k4:(o.k==4)=false:=Xt hk4
    have b2:((s.th p).snap !=0)=true:=Zn hz
    have b3:((s.th p).snap==0)=false:=Xt hz
    have fq1:=fun {n:Nat}=>Yi (n:=n) hs hr hi hp
    have fq2:=@Ya
    refine go ?_
    clear fq1 fq2
    try with_reducible rfl
    try rfl
  ·by_cases hk2:o.k=2
   ·have hk4:¬o.k=4:=by omega
    by_cases hz:(s.th p).snap=0
    ·rw [show refV s.c (s.th p) o=3 from by unfold refV;rw [if_neg hkey,if_neg (fun h=>hk1 h.1),if_pos ⟨.inl hk2,hz⟩]]
     have b1:decide (o.key≥s.c.keys)=false:=decide_eq_false hkey
     have k1:(o.k==1)=false:=Xt hk1
     have k2:(o.k==2)=true:=Yk hk2
     have k4:(o.k==4)=false:=Xt hk4
     have b2:((s.th p).snap !=0)=false:=Yb hz
     have b3:((s.th p).snap==0)=true:=Yk hz
     have fq1:=fun {n:Nat}=>Yi (n:=n) hs hr hi hp
     have fq2:=@Ya
     refine go ?_
     clear fq1 fq2
     try with_reducible rfl
     try rfl
    ·rw [show refV s.c (s.th p) o=0 from by unfold refV;rw [if_neg hkey,if_neg (fun h=>hk1 h.1),if_neg (fun h=>hz h.2)]]
     have b1:decide (o.key≥s.c.keys)=false:=decide_eq_false hkey
     have k1:(o.k==1)=false:=Xt hk1
     have k2:(o.k==2)=true:=Yk hk2
     have k4:(o.k==4)=false:=Xt hk4
     have b2:((s.th p).snap !=0)=true:=Zn hz
     have b3:((s.th p).snap==0)=false:=Xt hz
     have fq1:=fun {n:Nat}=>Yi (n:=n) hs hr hi hp
     have fq2:=@Ya
     refine go ?_
     clear fq1 fq2
     try with_reducible rfl
     try rfl
   ·by_cases hk4:o.k=4
    ·by_cases hz:(s.th p).snap=0
     ·rw [show refV s.c (s.th p) o=3 from by unfold refV;rw [if_neg hkey,if_neg (fun h=>hk1 h.1),if_pos ⟨.inr hk4,hz⟩]]
      have b1:decide (o.key≥s.c.keys)=false:=decide_eq_false hkey
      have k1:(o.k==1)=false:=Xt hk1
      have k2:(o.k==2)=false:=Xt hk2
      have k4:(o.k==4)=true:=Yk hk4
      have b2:((s.th p).snap !=0)=false:=Yb hz
      have b3:((s.th p).snap==0)=true:=Yk hz
      have fq1:=fun {n:Nat}=>Yi (n:=n) hs hr hi hp
      have fq2:=@Ya
      refine go ?_
      clear fq1 fq2
      try with_reducible rfl
      try rfl
     ·rw [show refV s.c (s.th p) o=0 from by unfold refV;rw [if_neg hkey,if_neg (fun h=>hk1 h.1),if_neg (fun h=>hz h.2)]]
      have b1:decide (o.key≥s.c.keys)=false:=decide_eq_false hkey
      have k1:(o.k==1)=false:=Xt hk1
      have k2:(o.k==2)=false:=Xt hk2
      have k4:(o.k==4)=true:=Yk hk4
      have b2:((s.th p).snap !=0)=true:=Zn hz
      have b3:((s.th p).snap==0)=false:=Xt hz
      have fq1:=fun {n:Nat}=>Yi (n:=n) hs hr hi hp
      have fq2:=@Ya
      refine go ?_
      clear fq1 fq2
      try with_reducible rfl
      try rfl
    ·by_cases hz:(s.th p).snap=0
     ·rw [show refV s.c (s.th p) o=0 from by unfold refV;rw [if_neg hkey,if_neg (fun h=>hk1 h.1),if_neg (fun h=>h.1.elim hk2 hk4)]]
      have b1:decide (o.key≥s.c.keys)=false:=decide_eq_false hkey
      have k1:(o.k==1)=false:=Xt hk1
      have k2:(o.k==2)=false:=Xt hk2
      have k4:(o.k==4)=false:=Xt hk4
      have b2:((s.th p).snap !=0)=false:=Yb hz
      have b3:((s.th p).snap==0)=true:=Yk hz
      have fq1:=fun {n:Nat}=>Yi (n:=n) hs hr hi hp
      have fq2:=@Ya
      refine go ?_
      clear fq1 fq2
      try with_reducible rfl
      try rfl
     ·rw [show refV s.c (s.th p) o=0 from by unfold refV;rw [if_neg hkey,if_neg (fun h=>hk1 h.1),if_neg (fun h=>h.1.elim hk2 hk4)]]
      have b1:decide (o.key≥s.c.keys)=false:=decide_eq_false hkey
      have k1:(o.k==1)=false:=Xt hk1
      have k2:(o.k==2)=false:=Xt hk2
      have k4:(o.k==4)=false:=Xt hk4
      have b2:((s.th p).snap !=0)=true:=Zn hz
      have b3:((s.th p).snap==0)=false:=Xt hz
      have fq1:=fun {n:Nat}=>Yi (n:=n) hs hr hi hp
      have fq2:=@Ya
      refine go ?_
      clear fq1 fq2
      try with_reducible rfl
      try rfl
set_option maxHeartbeats 16000000 in
theorem Xf4 {n:Nat} {s:Sta} {p:Nat} {o:Op3} (hs:staB s=true) (hr:s.room) (hi:s.i64) (hp:p<s.ths.length) (ho:Vx o=true) (h:(s.th p).pc=0):callP cfg (n+16) 168 [.agg (staA s),.int .i64 (p:Int),.agg (opA o)]=some ⟨.tup [.agg (staA (Y5 s p o)),.int .i64 (if (refV s.c (s.th p) o)=0 then 1 else 2)],[]⟩:=by
 rw [Xa]
 obtain ⟨H,N,TT⟩:=Xfy.1 ⟨hs,hi.1⟩
 have T:TV s.c (s.th p):=TT _ (Xi hp)
 have hlt:=H.lt
 have hlg:=H.lg
 have hb:=Xm H.cf
 have hro:(s.th p).room:=hr.2.2.2 _ (Xi hp)
 have hrun:runB s p=false:=decide_eq_false (by simpa using h)
 have hw1:IntKind.i64.wrap (((s.ths.map thA).length:Int) - 1)=(s.ths.length:Int) - 1:=by rw [List.length_map];exact Xc (by omega) (by omega)
 have g1:(decide (0≤(p:Int))&&decide ((p:Int)≤IntKind.i64.wrap (((s.ths.map thA).length:Int) - 1)))=true:=by rw [hw1];simp;omega
 have d1:=Xf (f:=thA) hp
 have d2:=Xg p
 have r1:(s.ths.map thA)[p]?=some (thR 0 (s.th p)):=by rw [←h];exact Xe hp
 have hL:p<(s.ths.map thA).length:=by rw [List.length_map];exact hp
 by_cases hv:(refV s.c (s.th p) o)=0
 ·by_cases hk1:o.k=1
  ·have v0:((refV s.c (s.th p) o) !=0)=false:=Yb hv
   have hz0:(0:Int)=0:=rfl
   have k1:(o.k==1)=true:=Yk hk1
   have x8:=fun {row:List AV} {x y:R}=>Xn (x:=x) (y:=y) (Uv (j:=p) (x:=row) hL)
   rw [show Y5 s p o=setT s p {({clr (s.th p) with pc:=0,op:=o,res:=⟨0,0⟩}:Th) with pc:=1} from by unfold Y5 V8;rw [if_pos hv];unfold begT;dsimp only;rw [if_pos hk1],if_pos hv]
   have st1:=r1
   have fq1:=fun {n:Nat}=>Yz (n:=n) hr
   have fq2:=fun {n:Nat}=>Yi (n:=n) hs hr hi hp
   have fq3:=@Ya
   have fq4:=fun {n:Nat}=>We (n:=n) hs hr hi hp ho
   refine goD ?_
   clear fq1 fq2 fq3 fq4
   refine okS2 ?_
   simp only [staA,thsA,Xl,Yu,setT,clr,List.map_set,thA,hv]
   try rfl
  ·by_cases hk2:o.k=2
   ·have v0:((refV s.c (s.th p) o) !=0)=false:=Yb hv
    have hz0:(0:Int)=0:=rfl
    have k1:(o.k==1)=false:=Xt (by omega)
    have k2:(o.k==2)=true:=Yk hk2
    have x8:=fun {row:List AV} {x y:R}=>Xn (x:=x) (y:=y) (Uv (j:=p) (x:=row) hL)
    rw [show Y5 s p o=setT s p {({clr (s.th p) with pc:=0,op:=o,res:=⟨0,0⟩}:Th) with pc:=10} from by unfold Y5 V8;rw [if_pos hv];unfold begT;dsimp only;rw [if_neg (show ¬o.k=1 by omega),if_pos hk2],if_pos hv]
    have st1:=r1
    have fq1:=fun {n:Nat}=>Yz (n:=n) hr
    have fq2:=fun {n:Nat}=>Yi (n:=n) hs hr hi hp
    have fq3:=@Ya
    have fq4:=fun {n:Nat}=>We (n:=n) hs hr hi hp ho
    refine goD ?_
    clear fq1 fq2 fq3 fq4
    refine okS2 ?_
    simp only [staA,thsA,Xl,Yu,setT,clr,List.map_set,thA,hv]
    try rfl
   ·by_cases hk4:o.k=4
    ·have v0:((refV s.c (s.th p) o) !=0)=false:=Yb hv
     have hz0:(0:Int)=0:=rfl
     have k1:(o.k==1)=false:=Xt (by omega)
     have k2:(o.k==2)=false:=Xt (by omega)
     have k4:(o.k==4)=true:=Yk hk4
     have x8:=fun {row:List AV} {x y:R}=>Xn (x:=x) (y:=y) (Uv (j:=p) (x:=row) hL)
     rw [show Y5 s p o=setT s p {({clr (s.th p) with pc:=0,op:=o,res:=⟨0,0⟩}:Th) with pc:=80} from by unfold Y5 V8;rw [if_pos hv];unfold begT;dsimp only;rw [if_neg (show ¬o.k=1 by omega),if_neg (show ¬o.k=2 by omega),if_pos hk4],if_pos hv]
     have st1:=r1
     have fq1:=fun {n:Nat}=>Yz (n:=n) hr
     have fq2:=fun {n:Nat}=>Yi (n:=n) hs hr hi hp
     have fq3:=@Ya
     have fq4:=fun {n:Nat}=>We (n:=n) hs hr hi hp ho
     refine goD ?_
     clear fq1 fq2 fq3 fq4
     refine okS2 ?_
     simp only [staA,thsA,Xl,Yu,setT,clr,List.map_set,thA,hv]
     try rfl
    ·by_cases hk5:o.k=5
     ·have v0:((refV s.c (s.th p) o) !=0)=false:=Yb hv
      have hz0:(0:Int)=0:=rfl
      have k1:(o.k==1)=false:=Xt (by omega)
      have k2:(o.k==2)=false:=Xt (by omega)
      have k4:(o.k==4)=false:=Xt (by omega)
      have k5:(o.k==5)=true:=Yk hk5
      have x8:=fun {row:List AV} {x y:R}=>Xn (x:=x) (y:=y) (Uv (j:=p) (x:=row) hL)
      rw [show Y5 s p o=setT s p {({clr (s.th p) with pc:=0,op:=o,res:=⟨0,0⟩}:Th) with pc:=50} from by unfold Y5 V8;rw [if_pos hv];unfold begT;dsimp only;rw [if_neg (show ¬o.k=1 by omega),if_neg (show ¬o.k=2 by omega),if_neg (show ¬o.k=4 by omega),if_pos hk5],if_pos hv]
      have st1:=r1
      have fq1:=fun {n:Nat}=>Yz (n:=n) hr
      have fq2:=fun {n:Nat}=>Yi (n:=n) hs hr hi hp
      have fq3:=@Ya
      have fq4:=fun {n:Nat}=>We (n:=n) hs hr hi hp ho
      refine goD ?_
      clear fq1 fq2 fq3 fq4
      refine okS2 ?_
      simp only [staA,thsA,Xl,Yu,setT,clr,List.map_set,thA,hv]
      try rfl
     ·have hk3:o.k=3:=by have:=Xpe ho;omega
      by_cases hf:(s.th p).free.length=0
      ·have v0:((refV s.c (s.th p) o) !=0)=false:=Yb hv
       have k1:(o.k==1)=false:=Xt (by omega)
       have k2:(o.k==2)=false:=Xt (by omega)
       have k4:(o.k==4)=false:=Xt (by omega)
       have k5:(o.k==5)=false:=Xt (by omega)
       have k3:(o.k==3)=true:=Yk hk3
       have f0:decide (((((s.th p).free.map iA).length:Int))>0)=false:=decide_eq_false (by rw [List.length_map];omega)
       have x8:=fun {row:List AV} {x y:R}=>Xn (x:=x) (y:=y) (Uv (j:=p) (x:=row) hL)
       rw [show Y5 s p o=setT s p {({clr (s.th p) with pc:=0,op:=o,res:=⟨0,0⟩}:Th) with pc:=30} from by unfold Y5 V8;rw [if_pos hv];unfold begT;dsimp only;rw [if_neg (show ¬o.k=1 by omega),if_neg (show ¬o.k=2 by omega),if_neg (show ¬o.k=4 by omega),if_neg (show ¬o.k=5 by omega),if_pos hf],if_pos hv]
       have st1:=r1
       have fq1:=fun {n:Nat}=>Yz (n:=n) hr
       have fq2:=fun {n:Nat}=>Yi (n:=n) hs hr hi hp
       have fq3:=@Ya
       have fq4:=fun {n:Nat}=>We (n:=n) hs hr hi hp ho
       refine goD ?_
       clear fq1 fq2 fq3 fq4
       refine okS2 ?_
       simp only [staA,thsA,Xl,Yu,setT,clr,List.map_set,thA,hv]
       try rfl
      ·have v0:((refV s.c (s.th p) o) !=0)=false:=Yb hv
       have k1:(o.k==1)=false:=Xt (by omega)
       have k2:(o.k==2)=false:=Xt (by omega)
       have k4:(o.k==4)=false:=Xt (by omega)
       have k5:(o.k==5)=false:=Xt (by omega)
       have k3:(o.k==3)=true:=Yk hk3
       have hfl:=hro.2.1
       have hfl2:=T.lf
       have f0:decide (((((s.th p).free.map iA).length:Int))>0)=true:=decide_eq_true (by rw [List.length_map];omega)
       have wl:(IntKind.i64.wrap ((((s.th p).free.map iA).length:Int) - 1))=(((s.th p).free.length - 1:Nat):Int):=by rw [List.length_map,Xc (by omega) (by omega)];omega
       have f1:decide (0≤(IntKind.i64.wrap ((((s.th p).free.map iA).length:Int) - 1)))=true:=by rw [wl];exact decide_eq_true (by omega)
       have f2:decide ((IntKind.i64.wrap ((((s.th p).free.map iA).length:Int) - 1))<(((s.th p).free.map iA).length:Int))=true:=by rw [wl,List.length_map];exact decide_eq_true (by omega)
       have f3:decide ((IntKind.i64.wrap ((((s.th p).free.map iA).length:Int) - 1))≤(((s.th p).free.map iA).length:Int))=true:=by rw [wl,List.length_map];exact decide_eq_true (by omega)
       have r2:((s.th p).free.map iA)[(IntKind.i64.wrap ((((s.th p).free.map iA).length:Int) - 1)).toNat]?=some (iA ((s.th p).free.getD ((s.th p).free.length - 1) default)):=by rw [wl,Int.toNat_natCast];exact Xe (by omega)
       have hxm:((s.th p).free.getD ((s.th p).free.length - 1) default)∈(s.th p).free:=Xi (by omega)
       have hxr:=T.fr _ hxm
       have hgi:((s.th p).free.getD ((s.th p).free.length - 1) default).toNat<s.gens.length:=by omega
       have hgn:=H.gn _ hgi
       have hi62:0≤((s.th p).free.getD ((s.th p).free.length - 1) default)∧((s.th p).free.getD ((s.th p).free.length - 1) default)≤62:=by omega
       have r3:(s.gens.map iA)[((s.th p).free.getD ((s.th p).free.length - 1) default).toNat]?=some (iA (s.gens.getD ((s.th p).free.getD ((s.th p).free.length - 1) default).toNat default)):=Xe hgi
       have g2:decide (0≤((s.th p).free.getD ((s.th p).free.length - 1) default))=true:=decide_eq_true hxr.1
       have g3:decide (((s.th p).free.getD ((s.th p).free.length - 1) default)<((s.gens.map iA).length:Int))=true:=decide_eq_true (by rw [List.length_map];omega)
       have go8:Qt [(0,0+8)] [(0,0+8),((p:Int).toNat,0+15)] (p:Int).toNat (0+15)=true:=by simp [Qt]
       have hT1:List.take ((IntKind.i64.wrap ((((s.th p).free.map iA).length:Int) - 1)).toNat - Int.toNat 0) (List.drop (Int.toNat 0) ((s.th p).free.map iA))=((s.th p).free.take ((s.th p).free.length - 1)).map iA:=by rw [wl,Int.toNat_natCast,List.map_take];rfl
       have hT2:List.take (IntKind.i64.wrap ((((s.th p).free.map iA).length:Int) - 1)).toNat ((s.th p).free.map iA)=((s.th p).free.take ((s.th p).free.length - 1)).map iA:=by rw [wl,Int.toNat_natCast,List.map_take]
       have x8:=fun {row:List AV} {x y:R}=>Xn (x:=x) (y:=y) (Uv (j:=p) (x:=row) hL)
       rw [show Y5 s p o=setT s p {({clr (s.th p) with pc:=0,op:=o,res:=⟨0,0⟩}:Th) with pc:=32,free:=(s.th p).free.take ((s.th p).free.length - 1),node:=mkH ((s.th p).free.getD ((s.th p).free.length - 1) default) (s.gens.getD ((s.th p).free.getD ((s.th p).free.length - 1) default).toNat default)} from by unfold Y5 V8;rw [if_pos hv];unfold begT;dsimp only;rw [if_neg (show ¬o.k=1 by omega),if_neg (show ¬o.k=2 by omega),if_neg (show ¬o.k=4 by omega),if_neg (show ¬o.k=5 by omega),if_neg hf],if_pos hv]
       have st1:=r1
       have fq1:=fun {n:Nat}=>Yz (n:=n) hr
       have fq2:=fun {n:Nat}=>Yi (n:=n) hs hr hi hp
       have fq3:=@Ya
       have fq4:=fun {n:Nat}=>We (n:=n) hs hr hi hp ho
       have fq5:=fun {n:Nat}=>Xc7 (n:=n) hi62 hgn
       have x1:=fun {x y:R}=>Xn (x:=x) (y:=y) go8
       refine goD ?_
       clear fq1 fq2 fq3 fq4 fq5 x1
       refine okS2 ?_
       simp only [staA,thsA,Xl,Yu,setT,clr,List.map_set,thA,hv,hT1,hT2,Zj]
       try rfl
 ·have v0:((refV s.c (s.th p) o) !=0)=true:=Zn hv
  have x8:=fun {row:List AV} {x y:R}=>Xn (x:=x) (y:=y) (Uv (j:=p) (x:=row) hL)
  rw [show Y5 s p o=setT s p {clr (s.th p) with pc:=0,op:=o,res:=⟨(refV s.c (s.th p) o),0⟩} from by unfold Y5 V8;rw [if_neg hv],if_neg hv]
  have st1:=r1
  have fq1:=fun {n:Nat}=>Yz (n:=n) hr
  have fq2:=fun {n:Nat}=>Yi (n:=n) hs hr hi hp
  have fq3:=@Ya
  have fq4:=fun {n:Nat}=>We (n:=n) hs hr hi hp ho
  refine goD ?_
  clear fq1 fq2 fq3 fq4
  refine okS2 ?_
  simp only [staA,thsA,Xl,Yu,setT,clr,List.map_set,thA]
  try rfl
noncomputable section
abbrev evA (e:Ev):List AV:=[.int .i64 e.th,.int .i64 e.op.k,.int .i64 e.op.key,.int .i64 e.op.v,.int .i64 e.res.c,.int .i64 e.res.v,.int .i64 e.st,.int .i64 e.en]
abbrev evsA (l:List Ev):AV:=.lst 8 (l.map evA)
abbrev opsA (l:List Op3):AV:=.lst 3 (l.map opA)
abbrev Xp (l:List Op3):List AV:=[opsA l]
abbrev Yt (l:List (List Op3)):AV:=.lst 1 (l.map Xp)
abbrev macA (m:Mac):List AV:=[.int .i64 m.s.c.th,.int .i64 m.s.c.keys,.int .i64 m.s.c.cap,.int .i64 m.s.c.b,.int .i64 m.s.c.p,.int .i64 m.s.c.cm,Xl m.s.cells,Xl m.s.gens,thsA m.s.ths,.int .i64 m.s.steps,.int .i64 m.s.changes,.int .i64 m.s.retries,.int .i64 m.s.faults,Yt m.progs,Xl m.next,evsA m.evs,.int .i64 m.time]
theorem Xxt {h:Int} (hh:isH h=true):0≤h∧h≤2000000:=by
 have:=of_decide_eq_true hh
 omega
theorem Xuo {c:Cf} {h:Int} (hl:Y4 c h=true):I64 h:=by
 unfold Y4 at hl
 simp only [Bool.and_eq_true] at hl
 have:=Xxt hl.1
 constructor <;> omega
theorem TV.room {c:Cf} {t:Th} (T:TV c t):t.room:=by
 have:=T.lf;have:=T.ll;have:=T.lo;have:=T.lb;have:=T.lw
 exact ⟨by omega,by omega,by omega,by omega,by omega⟩
theorem TV.i64 {c:Cf} {t:Th} (T:TV c t):t.i64:=⟨Q8 T.nd,Q8 T.pv,Q8 T.cr,Xsu T.nx,fun e he=>Xuo (T.bf e he).2,fun e he=>Xuo (T.wf e he).2,fun h hh=>Xuo (T.lm h hh)⟩
theorem SI.room {s:Sta} {ns:Nat→Nat} (S:SI s ns):s.room:=by
 have hb:=Xm S.cv.cf
 have:=S.cv.lc;have:=S.cv.lg;have:=S.cv.lt
 refine ⟨by omega,by omega,by omega,fun t ht=>?_⟩
 obtain ⟨i,hi,rfl⟩:=mem_get ht
 exact (S.tv i hi).1.room
theorem SI.i64 {s:Sta} {ns:Nat→Nat} (S:SI s ns):s.i64:=by
 refine ⟨S.cv.i6,fun t ht=>?_⟩
 obtain ⟨i,hi,rfl⟩:=mem_get ht
 exact (S.tv i hi).1.i64
theorem MI.room {m:Mac} (M:MI m):m.s.room:=M.si.room
theorem MI.i64 {m:Mac} (M:MI m):m.s.i64:=M.si.i64
theorem MI.pn {m:Mac} (M:MI m):m.progs.length≤4∧m.s.ths.length=m.progs.length:=by
 have hb:=Xm M.si.cv.cf
 have:=M.pl;have:=M.si.cv.lt
 constructor <;> omega
theorem Xnb {l:List Op3} (h:Vz l=true):l.length≤20:=by
 unfold Vz at h
 simp only [Bool.and_eq_true,decide_eq_true_eq] at h
 exact h.2
theorem Xwb {l:List Op3} (h:Vz l=true):∀ o∈l,Vx o=true:=by
 unfold Vz at h
 simp only [Bool.and_eq_true,List.all_eq_true] at h
 exact h.1
end
theorem Xkc {n:Nat} {l:List Op3} (hx:l.length≤1048576):callP cfg (n+3) 185 [opsA l]=some ⟨.bool (Vz l),[]⟩:=by
 rw [Xa]
 unfold Vz
 refine go ?_
 refine (Xb (fun e k=>e.set 7 (.int .i64 (k:Int))) (fun h _=>h) (fun k=>some ⟨.bool ((l.drop k).all Vx&&decide (l.length≤20)),[]⟩) l.length (by show _<18446744073709551616;omega) rfl ?_).trans rfl
 intro k f hk IH
 by_cases hlt:k<l.length
 ·have e1:=Xf (f:=opA) hlt
  have e2:=Xg k
  have r1:=Xe (f:=opA) hlt
  have hw:=Xv (k:=k) (by omega)
  rw [Xq hlt,List.all_cons]
  by_cases hv:Vx (l.getD k default)=true
  ·rw [hv,Bool.true_and]
   have fq1:=@Ya
   refine go ?_
   clear fq1
   try with_reducible rfl
   exact IH hlt _ _ (by rw [hw];rfl) rfl
  ·replace hv:Vx (l.getD k default)=false:=by simpa only [Bool.not_eq_true] using hv
   rw [hv,Bool.false_and]
   have fq1:=@Ya
   refine go ?_
   clear fq1
   try with_reducible rfl
   all_goals rfl
 ·have e1:=Xh (f:=opA) (Nat.le_of_not_lt hlt)
  rw [List.drop_eq_nil_of_le (by omega)]
  by_cases h20:l.length≤20
  ·have b:decide ((((l.map opA).length:Nat):Int)≤20)=true:=decide_eq_true (by rw [List.length_map];omega)
   rw [decide_eq_true h20]
   refine go ?_
   try with_reducible rfl
   all_goals exact okB b
  ·have b:decide ((((l.map opA).length:Nat):Int)≤20)=false:=decide_eq_false (by rw [List.length_map];omega)
   rw [decide_eq_false h20]
   refine go ?_
   try with_reducible rfl
   all_goals exact okB b
theorem Xbd {n:Nat} {l:List Op3} (hx:l.length≤1048576):callP cfg (n+4) 184 [opsA l]=some ⟨.bool (!Vz l),[]⟩:=by
 rw [Xa]
 have fq1:=fun {n:Nat}=>Xkc (n:=n) hx
 refine go ?_
 clear fq1
 try with_reducible rfl
 all_goals rfl
theorem X25 {n:Nat} {xs:List (List Op3)} (hx:xs.length≤maxLen) (hxs:∀ l∈xs,l.length≤1048576):callP cfg (n+5) 271 [Yt xs,.fn 184 []]=some ⟨.int .i64 (idxF (fun l=>!Vz l) 0 xs),[]⟩:=by
 unfold maxLen at hx
 rw [Xa]
 refine go ?_
 refine (Xb (fun e k=>e.set 8 (.int .i64 (k:Int))) (fun h _=>h) (fun k=>some ⟨.int .i64 (idxF (fun l=>!Vz l) k (xs.drop k)),[]⟩) xs.length (by show _<18446744073709551616;omega) rfl ?_).trans rfl
 intro k f hk IH
 by_cases hlt:k<xs.length
 ·have e1:=Xf (f:=Xp) hlt
  have e2:=Xg k
  have r1:=Xe (f:=Xp) hlt
  have hw:=Xv (k:=k) (by omega)
  have hm:=hxs _ (Xi hlt)
  rw [Xq hlt]
  by_cases hv:(fun l=>!Vz l) (xs.getD k default)=true
  ·have hi:idxF (fun l=>!Vz l) k (xs.getD k default::xs.drop (k+1))=(k:Int):=if_pos hv
   rw [hi]
   have fq1:=fun {n:Nat}=>Xbd (n:=n) hm
   refine go ?_
   clear fq1
   try with_reducible rfl
  ·have hv':(fun l=>!Vz l) (xs.getD k default)=false:=by simpa using hv
   have hi:idxF (fun l=>!Vz l) k (xs.getD k default::xs.drop (k+1))=idxF (fun l=>!Vz l) (k+1) (xs.drop (k+1)):=if_neg hv
   rw [hi]
   have fq1:=fun {n:Nat}=>Xbd (n:=n) hm
   refine go ?_
   clear fq1
   try with_reducible rfl
   exact IH hlt _ _ (by rw [hw];rfl) rfl
 ·have e1:=Xh (f:=Xp) (Nat.le_of_not_lt hlt)
  rw [List.drop_eq_nil_of_le (by omega)]
  refine go ?_
  try with_reducible rfl
  rfl
theorem X5o {n:Nat} {xs:List (List Op3)} (hx:xs.length≤maxLen) (hxs:∀ l∈xs,l.length≤1048576):callP cfg (n+6) 183 [Yt xs,.fn 184 []]=some ⟨.bool (xs.any (fun l=>!Vz l)),[]⟩:=by
 rw [Xa]
 have fq1:=fun {n:Nat}=>X25 (n:=n) hx hxs
 refine go ?_
 clear fq1
 try with_reducible rfl
 rw [←V5 _ _ 0]
theorem Xkx {α:Type} {p:α→Bool} {l:List α}:(!l.any fun x=>!p x)=l.all p:=by
 induction l with
 | nil=>rfl
 | cons x l ih=>rw [List.any_cons,List.all_cons,←ih];cases p x <;> simp
theorem Vd {n:Nat} {c:Cf} {ps:List (List Op3)} (hx:ps.length≤1048576) (hxs:∀ l∈ps,l.length≤1048576):callP cfg (n+8) 119 [.agg (cfA c),Yt ps]=some ⟨.bool (Vv c ps),[]⟩:=by
 rw [Xa]
 have hx2:ps.length≤maxLen:=by unfold maxLen;omega
 unfold Vv eqI
 by_cases h1:Yp c=true
 ·rw [h1,Bool.true_and]
  by_cases h2:(ps.length:Int)=c.th
  ·rw [decide_eq_true h2,Bool.true_and,←Xkx]
   have b:((((ps.map Xp).length:Nat):Int)==c.th)=true:=Yk (by rw [List.length_map];exact h2)
   have fq1:=@Xx
   have fq2:=fun {n:Nat}=>X5o (n:=n) hx2 hxs
   refine go ?_
   clear fq1 fq2
   try with_reducible rfl
   all_goals rfl
  ·rw [decide_eq_false h2,Bool.false_and]
   have b:((((ps.map Xp).length:Nat):Int)==c.th)=false:=Xt (by rw [List.length_map];exact h2)
   have fq1:=@Xx
   refine go ?_
   clear fq1
   try with_reducible rfl
 ·replace h1:Yp c=false:=by simpa only [Bool.not_eq_true] using h1
  rw [h1,Bool.false_and]
  have fq1:=@Xx
  refine go ?_
  clear fq1
  try with_reducible rfl
theorem Xa0 {n:Nat} {xs:List Op3} (hx:xs.length*24≤140737488355328):callP cfg (n+1) 209 [opsA xs]=some ⟨opsA xs,[]⟩:=by
 rw [Xa]
 have e2:Y0 (xs.map opA)=true:=Yx fun x=>rfl
 have e3:decide ((([]:List (List AV)).length+(xs.map opA).length)*24≤Yf)=true:=decide_eq_true (by simp only [List.length_nil,Nat.zero_add,List.length_map];exact hx)
 by_cases h0:xs=[]
 ·subst h0
  repeat' ((conv=>lhs;whnf);first | (with_reducible refine Vb.trans ?_) | (with_reducible refine V1.trans ?_) | (with_reducible refine Xcb.trans ?_) | (with_reducible refine V2.trans ?_) | (with_reducible refine Qx.trans ?_) | (with_reducible refine Up.trans ?_) | (with_reducible refine Qy.trans ?_) | (with_reducible refine Qz.trans ?_) | (with_reducible refine Xcc.trans ?_) | (with_reducible refine Qv.trans ?_) | (with_reducible refine Qw.trans ?_) | (with_reducible refine Wl.trans ?_) | (with_reducible refine Vc.trans ?_) | (with_reducible refine (Vn _ _).trans ?_) | (with_reducible refine (Wk _ _).trans ?_) | (with_reducible refine (Xn (by assumption)).trans ?_) | (with_reducible refine (Uk (by assumption)).trans ?_) | (with_reducible refine (Xo8 (by assumption)).trans ?_) | (with_reducible refine (Xo9 (by assumption)).trans ?_) | (with_reducible refine (Qb _ _ _).trans ?_) | (with_reducible refine (Qc _ _ _).trans ?_) | (refine Xld ?_ ?_) | (with_reducible refine (Xn (by with_unfolding_all rfl)).trans ?_) | fail)
  all_goals (conv=>lhs;whnf)
  all_goals rfl
 ·have e1:decide ((xs.map opA).length=0)=false:=decide_eq_false (by simpa using h0)
  have x1:=fun {x y:R}=>Xn (x:=x) (y:=y) e3
  refine go ?_
  clear x1
  try with_reducible rfl
  rfl
theorem U7 {n:Nat} {xs:List Ev} (hx:xs.length*64≤140737488355328):callP cfg (n+1) 165 [evsA xs]=some ⟨evsA xs,[]⟩:=by
 rw [Xa]
 have e2:Y0 (xs.map evA)=true:=Yx fun x=>rfl
 have e3:decide ((([]:List (List AV)).length+(xs.map evA).length)*64≤Yf)=true:=decide_eq_true (by simp only [List.length_nil,Nat.zero_add,List.length_map];exact hx)
 by_cases h0:xs=[]
 ·subst h0
  repeat' ((conv=>lhs;whnf);first | (with_reducible refine Vb.trans ?_) | (with_reducible refine V1.trans ?_) | (with_reducible refine Xcb.trans ?_) | (with_reducible refine V2.trans ?_) | (with_reducible refine Qx.trans ?_) | (with_reducible refine Up.trans ?_) | (with_reducible refine Qy.trans ?_) | (with_reducible refine Qz.trans ?_) | (with_reducible refine Xcc.trans ?_) | (with_reducible refine Qv.trans ?_) | (with_reducible refine Qw.trans ?_) | (with_reducible refine Wl.trans ?_) | (with_reducible refine Vc.trans ?_) | (with_reducible refine (Vn _ _).trans ?_) | (with_reducible refine (Wk _ _).trans ?_) | (with_reducible refine (Xn (by assumption)).trans ?_) | (with_reducible refine (Uk (by assumption)).trans ?_) | (with_reducible refine (Xo8 (by assumption)).trans ?_) | (with_reducible refine (Xo9 (by assumption)).trans ?_) | (with_reducible refine (Qb _ _ _).trans ?_) | (with_reducible refine (Qc _ _ _).trans ?_) | (refine Xld ?_ ?_) | (with_reducible refine (Xn (by with_unfolding_all rfl)).trans ?_) | fail)
  all_goals (conv=>lhs;whnf)
  all_goals rfl
 ·have e1:decide ((xs.map evA).length=0)=false:=decide_eq_false (by simpa using h0)
  have x1:=fun {x y:R}=>Xn (x:=x) (y:=y) e3
  refine go ?_
  clear x1
  try with_reducible rfl
  rfl
theorem U8 {n:Nat} {ps:List (List Op3)} (hx:ps.length≤1048576) (hxs:∀ l∈ps,l.length≤1048576):callP cfg (n+2) 141 [Yt ps]=some ⟨Yt ps,[]⟩:=by
 rw [Xa]
 refine go ?_
 refine (Xb (fun e k=>e.set 9 (.int .i64 (k:Int))) (fun h k=>h.set 2 (some ⟨false,false,false,1,(ps.take k).map Xp⟩)) (fun k=>some ⟨Yt ps,[]⟩) ps.length (by show _<18446744073709551616;omega) rfl ?_).trans rfl
 intro k f hk IH
 by_cases hlt:k<ps.length
 ·have e1:=Xf (f:=Xp) hlt
  have e2:=Xg k
  have r1:=Xe (f:=Xp) hlt
  have hw:=Xv (k:=k) (by omega)
  have hm0:=hxs _ (Xi hlt)
  have hm:(ps.getD k default).length*24≤140737488355328:=by omega
  have e3:decide ((((ps.take k).map Xp).length+1)*24≤Yf)=true:=decide_eq_true (by
   have:((ps.take k).map Xp).length=k:=by rw [List.length_map,List.length_take];omega
   rw [this];show _≤140737488355328;omega)
  have fq1:=fun {n:Nat}=>Xa0 (n:=n) hm
  have x1:=fun {x y:R}=>Xn (x:=x) (y:=y) e3
  refine go ?_
  clear fq1 x1
  try with_reducible rfl
  refine IH hlt _ _ (by rw [hw];rfl) (by rw [←Xb6 hlt];rfl)
 ·have e1:=Xh (f:=Xp) (Nat.le_of_not_lt hlt)
  obtain rfl:k=ps.length:=by omega
  rw [List.take_length]
  refine go ?_
  try with_reducible rfl
def Mac.room (m:Mac):Prop:=m.s.room∧m.progs.length≤1048576∧(∀ l∈m.progs,l.length≤1048576)∧m.next.length≤1048576∧m.evs.length≤1048576
theorem MI.mroom {m:Mac} (M:MI m):m.room:=by
 have h1:=M.pn;have h2:=M.nl;have h3:=M.el
 exact ⟨M.room,by omega,fun l hl=>by have:=Xnb (M.pr l hl);omega,by omega,by omega⟩
set_option maxHeartbeats 4000000 in
theorem Z1 {n:Nat} {m:Mac} (hm:m.room):callP cfg (n+4) 106 [.agg (macA m)]=some ⟨.agg (macA m),[]⟩:=by
 rw [Xa]
 obtain ⟨h1,h2,h3,h4,h5⟩:=hm
 have g1:m.next.length*8≤140737488355328:=by omega
 have g2:m.evs.length*64≤140737488355328:=by omega
 have fq1:=fun {n:Nat}=>Yz (n:=n) h1
 have fq2:=fun {n:Nat}=>U8 (n:=n) h2 h3
 have fq3:=fun {n:Nat}=>Zc (n:=n) g1
 have fq4:=fun {n:Nat}=>U7 (n:=n) g2
 refine goD ?_
 clear fq1 fq2 fq3 fq4
 try with_reducible rfl
theorem Xk3 {n:Nat} {m:Mac} {pk:Int} (h0:0≤pk∧pk≤9000) (h1:1≤m.progs.length∧m.progs.length≤4):callP cfg (n+1) 105 [.agg (macA m),.int .i64 pk]=some ⟨.int .i64 (pk % (m.progs.length:Int)),[]⟩:=by
 rw [Xa]
 have hl:((m.progs.map Xp).length:Int)=(m.progs.length:Int):=by rw [List.length_map]
 have n0:(((m.progs.map Xp).length:Int)==0)=false:=Xt (by omega)
 have n1:decide (((m.progs.map Xp).length:Int)=0)=false:=decide_eq_false (by omega)
 refine go ?_
 refine okI ?_
 rw [hl]
 obtain ⟨q,hq⟩:∃ q:Int,q=(m.progs.length:Int):=⟨_,rfl⟩
 rw [←hq]
 have hm1:pk.tmod q=pk % q:=Int.tmod_eq_emod_of_nonneg h0.1
 rw [hm1]
 have h4:q=1∨q=2∨q=3∨q=4:=by omega
 have h5:0≤pk % q∧pk % q≤3:=by rcases h4 with rfl | rfl | rfl | rfl <;> omega
 rw [Xc (by omega) (by omega),Int.tmod_eq_emod_of_nonneg (by omega)]
 rcases h4 with rfl | rfl | rfl | rfl <;> omega
set_option maxHeartbeats 4000000 in
theorem Xnd {n:Nat} {m:Mac} {p:Nat} (M:MI m) (hp:p<m.s.ths.length):callP cfg (n+1) 104 [.pv (macA m),.int .i64 (p:Int)]=some ⟨.bool (canV m p),[]⟩:=by
 rw [Xa]
 have hpn:=M.pn
 have hnl:=M.nl
 have d2:=Xg p
 have d1:=Xf (f:=thA) hp
 have r1:=Xe (f:=thA) hp
 have d3:decide ((p:Int)<((m.next.map iA).length:Int))=true:=Xf (by omega)
 have r2:(m.next.map iA)[p]?=some (iA (m.next.getD p default)):=Xe (by omega)
 have d4:decide ((p:Int)<((m.progs.map Xp).length:Int))=true:=Xf (by omega)
 have r3:(m.progs.map Xp)[p]?=some (Xp (m.progs.getD p default)):=Xe (by omega)
 unfold canV
 by_cases h1:m.time<1000000
 ·have b1:decide (m.time≥1000000)=false:=decide_eq_false (by omega)
  rw [decide_eq_true h1,Bool.true_and]
  by_cases h2:(m.s.th p).pc=0
  ·have b2:((m.s.th p).pc !=0)=false:=Yb h2
   rw [decide_eq_false (by simpa using h2),Bool.false_or]
   by_cases h3:m.next.getD p default<((m.progs.getD p default).length:Int)
   ·have b3:decide (m.next.getD p default<(((m.progs.getD p default).map opA).length:Int))=true:=decide_eq_true (by rw [List.length_map];exact h3)
    rw [decide_eq_true h3,Bool.true_and]
    by_cases h4:m.evs.length<80
    ·have b4:decide (((m.evs.map evA).length:Int)<80)=true:=decide_eq_true (by rw [List.length_map];omega)
     rw [decide_eq_true h4]
     refine goD ?_
     try with_reducible rfl
     all_goals first | rfl | exact okB b4
    ·have b4:decide (((m.evs.map evA).length:Int)<80)=false:=decide_eq_false (by rw [List.length_map];omega)
     rw [decide_eq_false h4]
     refine goD ?_
     try with_reducible rfl
     all_goals first | rfl | exact okB b4
   ·have b3:decide (m.next.getD p default<(((m.progs.getD p default).map opA).length:Int))=false:=decide_eq_false (by rw [List.length_map];exact h3)
    rw [decide_eq_false h3,Bool.false_and]
    refine goD ?_
    try with_reducible rfl
    all_goals rfl
  ·have b2:((m.s.th p).pc !=0)=true:=Zn h2
   rw [decide_eq_true (by simpa using h2),Bool.true_or]
   refine goD ?_
   try with_reducible rfl
   all_goals rfl
 ·have b1:decide (m.time≥1000000)=true:=decide_eq_true (by omega)
  rw [decide_eq_false h1,Bool.false_and]
  refine go ?_
  try with_reducible rfl
  all_goals rfl
theorem Xcv {n:Nat} {m:Mac} {e:Ev} (h1:m.next.length=m.progs.length) (h2:m.progs.length≤4):callP cfg (n+3) 121 [.agg (evA e),.pv (macA m)]=some ⟨.bool (!evB m e),[]⟩:=by
 rw [Xa]
 have hw1:IntKind.i64.wrap (((m.progs.map Xp).length:Int) - 1)=(m.next.length:Int) - 1:=by rw [List.length_map,Xc (by omega) (by omega)];omega
 by_cases a1:inB e.th 0 ((m.next.length:Int) - 1)=true
 ·have b1:inB e.th 0 (IntKind.i64.wrap (((m.progs.map Xp).length:Int) - 1))=true:=by rw [hw1];exact a1
  by_cases a2:Vx e.op=true
  ·by_cases a3:inB e.st 0 m.time=true
   ·by_cases a4:e.en=-1
    ·have b4:(e.en !=-1)=false:=Yb a4
     rw [show evB m e=true from by unfold evB;rw [a1,a2,a3,decide_eq_true a4];rfl]
     have fq1:=@X1
     have fq2:=@Ya
     refine go ?_
     clear fq1 fq2
     try with_reducible rfl
     all_goals first | rfl | exact congrArg (fun b=>some (⟨.bool (!b),[]⟩:Res)) a5
    ·have b4:(e.en !=-1)=true:=Zn a4
     by_cases a5:inB e.en e.st m.time=true
     ·
      rw [show evB m e=true from by unfold evB;rw [a1,a2,a3,a5];simp]
      have fq1:=@X1
      have fq2:=@Ya
      refine go ?_
      clear fq1 fq2
      try with_reducible rfl
      all_goals first | rfl | exact congrArg (fun b=>some (⟨.bool (!b),[]⟩:Res)) a5
     ·replace a5:inB e.en e.st m.time=false:=by simpa using a5
      rw [show evB m e=false from by unfold evB;rw [a1,a2,a3,a5,decide_eq_false a4];rfl]
      have fq1:=@X1
      have fq2:=@Ya
      refine go ?_
      clear fq1 fq2
      try with_reducible rfl
      all_goals first | rfl | exact congrArg (fun b=>some (⟨.bool (!b),[]⟩:Res)) a5
   ·replace a3:inB e.st 0 m.time=false:=by simpa using a3
    rw [show evB m e=false from by unfold evB;rw [a1,a2,a3];rfl]
    have fq1:=@X1
    have fq2:=@Ya
    refine go ?_
    clear fq1 fq2
    try with_reducible rfl
    all_goals first | rfl | exact congrArg (fun b=>some (⟨.bool (!b),[]⟩:Res)) a5
  ·replace a2:Vx e.op=false:=by simpa using a2
   rw [show evB m e=false from by unfold evB;rw [a1,a2];rfl]
   have fq1:=@X1
   have fq2:=@Ya
   refine go ?_
   clear fq1 fq2
   try with_reducible rfl
   all_goals first | rfl | exact congrArg (fun b=>some (⟨.bool (!b),[]⟩:Res)) a5
 ·replace a1:inB e.th 0 ((m.next.length:Int) - 1)=false:=by simpa using a1
  have b1:inB e.th 0 (IntKind.i64.wrap (((m.progs.map Xp).length:Int) - 1))=false:=by rw [hw1];exact a1
  rw [show evB m e=false from by unfold evB;rw [a1];rfl]
  have fq1:=@X1
  have fq2:=@Ya
  refine go ?_
  clear fq1 fq2
  try with_reducible rfl
  all_goals first | rfl | exact congrArg (fun b=>some (⟨.bool (!b),[]⟩:Res)) a5
theorem X5p {n:Nat} {m:Mac} {xs:List Ev} (hx:xs.length≤maxLen) (hxs:m.next.length=m.progs.length∧m.progs.length≤4):callP cfg (n+4) 186 [evsA xs,.fn 121 [.pv (macA m)]]=some ⟨.int .i64 (idxF (fun e=>!evB m e) 0 xs),[]⟩:=by
 unfold maxLen at hx
 rw [Xa]
 refine go ?_
 refine (Xb (fun e k=>e.set 8 (.int .i64 (k:Int))) (fun h _=>h) (fun k=>some ⟨.int .i64 (idxF (fun e=>!evB m e) k (xs.drop k)),[]⟩) xs.length (by show _<18446744073709551616;omega) rfl ?_).trans rfl
 intro k f hk IH
 by_cases hlt:k<xs.length
 ·have e1:=Xf (f:=evA) hlt
  have e2:=Xg k
  have r1:=Xe (f:=evA) hlt
  have hw:=Xv (k:=k) (by omega)
  rw [Xq hlt]
  by_cases hv:(fun e=>!evB m e) (xs.getD k default)=true
  ·have hi:idxF (fun e=>!evB m e) k (xs.getD k default::xs.drop (k+1))=(k:Int):=if_pos hv
   rw [hi]
   have fq1:=fun {n:Nat} {e:Ev}=>Xcv (n:=n) (e:=e) hxs.1 hxs.2
   refine go ?_
   clear fq1
   try with_reducible rfl
  ·have hv':(fun e=>!evB m e) (xs.getD k default)=false:=by simpa using hv
   have hi:idxF (fun e=>!evB m e) k (xs.getD k default::xs.drop (k+1))=idxF (fun e=>!evB m e) (k+1) (xs.drop (k+1)):=if_neg hv
   rw [hi]
   have fq1:=fun {n:Nat} {e:Ev}=>Xcv (n:=n) (e:=e) hxs.1 hxs.2
   refine go ?_
   clear fq1
   try with_reducible rfl
   exact IH hlt _ _ (by rw [hw];rfl) rfl
 ·have e1:=Xh (f:=evA) (Nat.le_of_not_lt hlt)
  rw [List.drop_eq_nil_of_le (by omega)]
  refine go ?_
  try with_reducible rfl
  rfl
theorem X6z {n:Nat} {m:Mac} {xs:List Ev} (hx:xs.length≤maxLen) (hxs:m.next.length=m.progs.length∧m.progs.length≤4):callP cfg (n+5) 120 [evsA xs,.fn 121 [.pv (macA m)]]=some ⟨.bool (xs.any (fun e=>!evB m e)),[]⟩:=by
 rw [Xa]
 have fq1:=fun {n:Nat}=>X5p (n:=n) hx hxs
 refine go ?_
 clear fq1
 try with_reducible rfl
 rw [←V5 _ _ 0]
set_option maxHeartbeats 4000000 in
theorem W9 {n:Nat} {m:Mac} (M:MI m):callP cfg (n+14) 56 [.agg (macA m)]=some ⟨.bool true,[]⟩:=by
 rw [Xa]
 obtain ⟨hr1,hr2,hr3,hr4,hr5⟩:=M.mroom
 have hr:=M.room
 have hi:=M.i64
 have hst:=M.sta
 have hpn:=M.pn
 have hnl:=M.nl
 have htm:=M.tm
 have hel:=M.el
 have hpb:Vv m.s.c m.progs=true:=by
  unfold Vv eqI
  rw [M.si.cv.cf,decide_eq_true M.pl,List.all_eq_true.2 M.pr];rfl
 have b1:(((m.next.map iA).length:Int) !=((m.progs.map Xp).length:Int))=false:=Yb (by rw [List.length_map,List.length_map];omega)
 have b2:inB m.time 0 1000000=true:=by unfold inB;simp;omega
 have b3:decide (((m.evs.map evA).length:Int)>80)=false:=decide_eq_false (by rw [List.length_map];omega)
 have hev:(m.evs.any fun e=>!evB m e)=false:=by
  rw [List.any_eq_false]
  intro e he
  rw [M.ev e he];simp
 have hx2:m.evs.length≤maxLen:=by unfold maxLen;omega
 have h12:m.next.length=m.progs.length∧m.progs.length≤4:=⟨hnl,hpn.1⟩
 have fq1:=fun {n:Nat}=>V7 (n:=n) hr hi
 have fq2:=@X1
 have fq3:=fun {n:Nat} {c:Cf}=>Vd (n:=n) (c:=c) hr2 hr3
 refine go ?_
 clear fq1 fq2 fq3
 refine (Xb (fun e k=>e.set 42 (.int .i64 (k:Int))) (fun h _=>h) (fun _=>some ⟨.bool true,[]⟩) m.next.length (by show _<18446744073709551616;omega) rfl ?_).trans rfl
 intro k f hk IH
 by_cases hlt:k<m.next.length
 ·have e1:=Xf (f:=iA) hlt
  have e2:=Xg k
  have r1:=Xe (f:=iA) hlt
  have e3:decide ((k:Int)<((m.progs.map Xp).length:Int))=true:=Xf (by omega)
  have r2:(m.progs.map Xp)[k]?=some (Xp (m.progs.getD k default)):=Xe (by omega)
  have hw:=Xv (k:=k) (by omega)
  have hn:=M.nx k hlt
  have b4:inB (m.next.getD k default) 0 (((m.progs.getD k default).map opA).length:Int)=true:=by rw [List.length_map];unfold inB;rw [decide_eq_true hn.1,decide_eq_true hn.2];rfl
  have fq1:=@X1
  refine go ?_
  clear fq1
  try with_reducible rfl
  exact IH hlt _ _ (by rw [hw];rfl) rfl
 ·have e1:=Xh (f:=iA) (Nat.le_of_not_lt hlt)
  have fq1:=fun {n:Nat}=>X6z (n:=n) hx2 h12
  refine go ?_
  clear fq1
  try with_reducible rfl
  exact okB (by rw [hev];rfl)
theorem Xwc {m:Mac} {p:Nat} {s2:Sta} (hs2:s2=stepV m.s p) (h:¬(m.s.th p).pc=0) (h2:¬(s2.th p).pc=0):Um m p=⟨s2,m.progs,m.next,m.evs,m.time+1⟩:=by
 subst hs2;unfold Um;rw [if_pos h,if_neg h2]
theorem Xwd {m:Mac} {p:Nat} {s2:Sta} (hs2:s2=stepV m.s p) (h:¬(m.s.th p).pc=0) (h2:(s2.th p).pc=0):Um m p=⟨s2,m.progs,m.next,Zk m.evs p m.time (s2.th p).res m.evs.length,m.time+1⟩:=by
 subst hs2;unfold Um;rw [if_pos h,if_pos h2];rfl
theorem Xwe {m:Mac} {p:Nat} {s2:Sta} (hs2:s2=Y5 m.s p (opAt m p)) (h:(m.s.th p).pc=0) (h2:refV m.s.c (m.s.th p) (opAt m p)=0):Um m p=⟨s2,m.progs,m.next.set p (m.next.getD p default+1),m.evs++[⟨p,opAt m p,⟨0,0⟩,m.time,-1⟩],m.time+1⟩:=by
 subst hs2;unfold Um;rw [if_neg (fun e=>e h),if_pos h2]
theorem Xwf {m:Mac} {p:Nat} {s2:Sta} (hs2:s2=Y5 m.s p (opAt m p)) (h:(m.s.th p).pc=0) (h2:¬refV m.s.c (m.s.th p) (opAt m p)=0):Um m p=⟨s2,m.progs,m.next.set p (m.next.getD p default+1),Zk (m.evs++[⟨p,opAt m p,⟨0,0⟩,m.time,-1⟩]) p m.time ⟨refV m.s.c (m.s.th p) (opAt m p),0⟩ (m.evs++[(⟨p,opAt m p,⟨0,0⟩,m.time,-1⟩:Ev)]).length,m.time+1⟩:=by
 subst hs2;unfold Um;rw [if_neg (fun e=>e h),if_neg h2];rfl
theorem Xne {s:Sta} {p:Nat} {o:Op3} (hp:p<s.ths.length):((Y5 s p o).th p).res=(⟨refV s.c (s.th p) o,0⟩:Rs):=by
 unfold Y5
 rw [Xuh hp,if_pos rfl]
 unfold V8
 split
 ·rename_i h
  unfold begT
  dsimp only
  rw [h]
  split
  ·rfl
  ·split
   ·rfl
   ·split
    ·rfl
    ·split
     ·rfl
     ·split <;> rfl
 ·rfl
theorem Xnf {s:Sta} {p:Nat} {o:Op3}:(Y5 s p o).ths.length=s.ths.length:=by unfold Y5 setT;simp
theorem MI.ns {m:Mac} (M:MI m) {p:Nat}:cntE p m.evs≤100:=by have:=Xv8 (p:=(p:Int)) (evs:=m.evs);have:=M.el;omega
theorem Xlp {l:List (List AV)} {a:Int} {j:Nat} {x:List AV} (h:decide (a<(l.length:Int))=true):decide (a<((l.set j x).length:Int))=true:=by rw [List.length_set];exact h
theorem Xwg {l:List Ev} {e:Ev}:(l++[e]).map evA=l.map evA++[evA e]:=by rw [List.map_append];rfl
theorem okM {a b:List AV} (h:a=b):some (⟨.agg a,[]⟩:Res)=some ⟨.agg b,[]⟩:=by rw [h]
theorem Xey {n:Nat} {m:Mac} {p:Nat} {s2:Sta} (M:MI m) (hp:p<m.s.ths.length) (hz:¬(m.s.th p).pc=0) (hs2:s2=stepV m.s p):callP cfg (n+48) 166 [.agg (staA m.s),.int .i64 (p:Int)]=some ⟨.tup [.agg (staA s2),.bool true],[]⟩:=by
 have h:=Xsz (n:=n+0) M.sta M.room M.i64 hp (M.si.tv p hp).2.s6 (fun h=>(M.si.tv p hp).2.w1 h)
 rw [if_neg hz,show runB m.s p=true from decide_eq_true hz,←hs2] at h
 exact h
set_option maxHeartbeats 16000000 in
theorem X5q {n:Nat} {m:Mac} {p:Nat} (M:MI m) (hp:p<m.s.ths.length) (hc:canV m p=true) (h:¬(m.s.th p).pc=0):callP cfg (n+58) 107 [.agg (macA m),.int .i64 (p:Int)]=some ⟨.agg (macA (Um m p)),[]⟩:=by
 rw [Xa]
 have hr:=M.room
 have hi:=M.i64
 have hs:=M.sta
 have hpn:=M.pn
 have hnl:=M.nl
 have htm:=M.tm
 have hel:=M.el
 have hmr:=M.mroom
 have d1:=Xf (f:=thA) hp
 have d2:=Xg p
 have r1:=Xe (f:=thA) hp
 have hW:=M.si.tv p hp
 have w1:IntKind.i64.wrap (m.time+1)=m.time+1:=Xc (by omega) (by omega)
 obtain ⟨s2,hs2⟩:∃ s2,s2=stepV m.s p:=⟨_,rfl⟩
 have hl2:p<s2.ths.length:=by rw [hs2,(Xct M.si hp M.ns h).len.1];exact hp
 have d3:=Xf (f:=thA) hl2
 have r6:=Xe (f:=thA) hl2
 have b0:((m.s.th p).pc !=0)=true:=Zn h
 by_cases h2:(s2.th p).pc=0
 ·have b2:((s2.th p).pc==0)=true:=Yk h2
  rw [Xwd hs2 h h2]
  have fq1:=fun {n:Nat}=>Z1 (n:=n) hmr
  have fq2:=fun {n:Nat}=>Xey (n:=n) M hp h hs2
  refine goD ?_
  clear fq1 fq2
  have hwl:IntKind.i64.wrap (((m.evs.map evA).length:Int) - 1)=((m.evs.length:Nat):Int) - 1:=by rw [List.length_map];exact Xc (by omega) (by omega)
  refine (X9 (fun e (j:Nat)=>e.set 4 (.int .i64 ((j:Int) - 1))) (fun h _=>h) (fun j=>some ⟨.agg (macA ⟨s2,m.progs,m.next,Zk m.evs p m.time (s2.th p).res j,m.time+1⟩),[]⟩) (fun j=>j≤m.evs.length) (fun j=>j) m.evs.length (by rw [←hwl];rfl) (Nat.le_refl _) (by show _<18446744073709551616;omega) ?_).trans rfl
  intro j f hj IH
  rcases j with _ | j
  ·have z1:decide (((0:Nat):Int) - 1≥0)=false:=rfl
   refine goD ?_
   refine okM ?_
   unfold Zk
   simp only [macA,thsA,Xl,Yt,evsA,List.map_set,List.map_append,List.map_cons,List.map_nil,Zj,w1]
   try rfl
  ·have q1:decide (((j+1:Nat):Int) - 1≥0)=true:=decide_eq_true (by omega)
   have q2:decide (0≤((j+1:Nat):Int) - 1)=true:=decide_eq_true (by omega)
   have q3:decide (((j+1:Nat):Int) - 1<((m.evs.map evA).length:Int))=true:=decide_eq_true (by rw [List.length_map];omega)
   have hti:(((j+1:Nat):Int) - 1).toNat=j:=by omega
   have r2:(m.evs.map evA)[(((j+1:Nat):Int) - 1).toNat]?=some (evA (m.evs.getD j default)):=by rw [hti];exact Xe hj
   have st1:=r2
   have hL:(((j+1:Nat):Int) - 1).toNat<(m.evs.map evA).length:=by rw [hti,List.length_map];exact hj
   have x8:=fun {row:List AV} {x y:R}=>Xn (x:=x) (y:=y) (Xlp (j:=(((j+1:Nat):Int) - 1).toNat) (x:=row) q3)
   have hwj:IntKind.i64.wrap (((j+1:Nat):Int) - 1 - 1)=(j:Int) - 1:=by rw [Xc (by omega) (by omega)];omega
   by_cases he:(m.evs.getD j default).th=(p:Int)
   ·have b1:((m.evs.getD j default).th==(p:Int))=true:=Yk he
    rw [show Zk m.evs p m.time (s2.th p).res (j+1)=m.evs.set j {m.evs.getD j default with en:=m.time,res:=(s2.th p).res} from if_pos he]
    refine goD ?_
    refine okM ?_
    simp only [macA,thsA,Xl,Yt,evsA,List.map_set,List.map_append,List.map_cons,List.map_nil,Zj,w1,hti]
    try rfl
   ·have b1:((m.evs.getD j default).th==(p:Int))=false:=Xt he
    rw [show Zk m.evs p m.time (s2.th p).res (j+1)=Zk m.evs p m.time (s2.th p).res j from if_neg he]
    refine goD ?_
    exact IH j _ _ (by omega) (by omega) (by rw [hwj];rfl) rfl
 ·have b2:((s2.th p).pc==0)=false:=Xt h2
  rw [Xwc hs2 h h2]
  have fq1:=fun {n:Nat}=>Z1 (n:=n) hmr
  have fq2:=fun {n:Nat}=>Xey (n:=n) M hp h hs2
  refine goD ?_
  clear fq1 fq2
  refine okM ?_
  simp only [macA,thsA,Xl,Yt,evsA,List.map_set,List.map_append,List.map_cons,List.map_nil,Zj,w1]
  try rfl
set_option maxHeartbeats 16000000 in
theorem X5r {n:Nat} {m:Mac} {p:Nat} (M:MI m) (hp:p<m.s.ths.length) (hc:canV m p=true) (h:(m.s.th p).pc=0):callP cfg (n+58) 107 [.agg (macA m),.int .i64 (p:Int)]=some ⟨.agg (macA (Um m p)),[]⟩:=by
 rw [Xa]
 have hr:=M.room
 have hi:=M.i64
 have hs:=M.sta
 have hpn:=M.pn
 have hnl:=M.nl
 have htm:=M.tm
 have hel:=M.el
 have hmr:=M.mroom
 have d1:=Xf (f:=thA) hp
 have d2:=Xg p
 have r1:=Xe (f:=thA) hp
 have hW:=M.si.tv p hp
 have w1:IntKind.i64.wrap (m.time+1)=m.time+1:=Xc (by omega) (by omega)
 unfold canV at hc
 rw [show decide ((m.s.th p).pc≠0)=false from decide_eq_false (by simpa using h),Bool.false_or] at hc
 simp only [Bool.and_eq_true,decide_eq_true_eq] at hc
 obtain ⟨hc1,hc2,hc3⟩:=hc
 have hnp:p<m.next.length:=by omega
 have hpp:p<m.progs.length:=by omega
 have hnx:=M.nx p hnp
 have hpl:=M.pr _ (Xi (xs:=m.progs) hpp)
 have hol:(m.next.getD p default).toNat<(m.progs.getD p default).length:=by omega
 have ho:Vx (opAt m p)=true:=Xwb hpl _ (Xi hol)
 obtain ⟨s2,hs2⟩:∃ s2,s2=Y5 m.s p (opAt m p):=⟨_,rfl⟩
 have hl2:p<s2.ths.length:=by rw [hs2,Xnf];exact hp
 have hre:(s2.th p).res=(⟨refV m.s.c (m.s.th p) (opAt m p),0⟩:Rs):=by rw [hs2];exact Xne hp
 have d3:=Xf (f:=thA) hl2
 have r6:=Xe (f:=thA) hl2
 have b0:((m.s.th p).pc !=0)=false:=Yb h
 have d4:decide ((p:Int)<((m.next.map iA).length:Int))=true:=Xf hnp
 have r3:(m.next.map iA)[p]?=some (iA (m.next.getD p default)):=Xe hnp
 have st1:=r3
 have d5:decide ((p:Int)<((m.progs.map Xp).length:Int))=true:=Xf hpp
 have r4:(m.progs.map Xp)[p]?=some (Xp (m.progs.getD p default)):=Xe hpp
 have d6:decide (0≤m.next.getD p default)=true:=decide_eq_true hnx.1
 have d7:decide (m.next.getD p default<(((m.progs.getD p default).map opA).length:Int))=true:=decide_eq_true (by rw [List.length_map];exact hc2)
 have r5:((m.progs.getD p default).map opA)[(m.next.getD p default).toNat]?=some (opA (opAt m p)):=Xe hol
 have hpl2:=Xnb hpl
 have w2:IntKind.i64.wrap (m.next.getD p default+1)=m.next.getD p default+1:=Xc (by omega) (by omega)
 have e3:decide (((m.evs.map evA).length+1)*64≤Yf)=true:=decide_eq_true (by rw [List.length_map];show _≤140737488355328;omega)
 by_cases h2:refV m.s.c (m.s.th p) (opAt m p)=0
 ·rw [Xwe hs2 h h2]
  have hso:=fun {n:Nat}=>Xf4 (n:=n) hs hr hi hp ho h
  rw [←hs2,if_pos h2] at hso
  have fq2:=@hso
  have fq1:=fun {n:Nat}=>Z1 (n:=n) hmr
  have x1:=fun {x y:R}=>Xn (x:=x) (y:=y) e3
  refine goD ?_
  clear fq1 x1
  refine okM ?_
  simp only [macA,thsA,Xl,Yt,evsA,List.map_set,List.map_append,List.map_cons,List.map_nil,Zj,w1,w2]
  try rfl
 ·rw [Xwf hs2 h h2,←hre]
  have hel2:(m.evs++[(⟨p,opAt m p,⟨0,0⟩,m.time,-1⟩:Ev)]).length≤80:=by rw [List.length_append];simp only [List.length_cons,List.length_nil];omega
  have hso:=fun {n:Nat}=>Xf4 (n:=n) hs hr hi hp ho h
  rw [←hs2,if_neg h2] at hso
  have fq2:=@hso
  have fq1:=fun {n:Nat}=>Z1 (n:=n) hmr
  have x1:=fun {x y:R}=>Xn (x:=x) (y:=y) e3
  refine goD ?_
  clear fq1 x1
  have hwl:IntKind.i64.wrap ((((m.evs++[(⟨p,opAt m p,⟨0,0⟩,m.time,-1⟩:Ev)]).map evA).length:Int) - 1)=(((m.evs++[(⟨p,opAt m p,⟨0,0⟩,m.time,-1⟩:Ev)]).length:Nat):Int) - 1:=by rw [List.length_map];exact Xc (by omega) (by omega)
  refine (X9 (fun e (j:Nat)=>e.set 4 (.int .i64 ((j:Int) - 1))) (fun h _=>h.set 4 (some ⟨false,false,true,17,[[.int .i64 s2.c.th,.int .i64 s2.c.keys,.int .i64 s2.c.cap,.int .i64 s2.c.b,.int .i64 s2.c.p,.int .i64 s2.c.cm,Xl s2.cells,Xl s2.gens,thsA s2.ths,.int .i64 s2.steps,.int .i64 s2.changes,.int .i64 s2.retries,.int .i64 s2.faults,Yt m.progs,.lst 1 ((m.next.map iA).set p [.int .i64 (IntKind.i64.wrap (m.next.getD p default+1))]),.lst 8 ((m.evs++[(⟨p,opAt m p,⟨0,0⟩,m.time,-1⟩:Ev)]).map evA),.int .i64 m.time]]⟩)) (fun j=>some ⟨.agg (macA ⟨s2,m.progs,(m.next.set p (m.next.getD p default+1)),Zk (m.evs++[(⟨p,opAt m p,⟨0,0⟩,m.time,-1⟩:Ev)]) p m.time (s2.th p).res j,m.time+1⟩),[]⟩) (fun j=>j≤(m.evs++[(⟨p,opAt m p,⟨0,0⟩,m.time,-1⟩:Ev)]).length) (fun j=>j) (m.evs++[(⟨p,opAt m p,⟨0,0⟩,m.time,-1⟩:Ev)]).length (by rw [←hwl,Xwg];rfl) (Nat.le_refl _) (by show _<18446744073709551616;omega) ?_).trans rfl
  intro j f hj IH
  rcases j with _ | j
  ·have z1:decide (((0:Nat):Int) - 1≥0)=false:=rfl
   refine goD ?_
   refine okM ?_
   unfold Zk
   simp only [macA,thsA,Xl,Yt,evsA,List.map_set,List.map_append,List.map_cons,List.map_nil,Zj,w1,w2]
   try rfl
  ·have q1:decide (((j+1:Nat):Int) - 1≥0)=true:=decide_eq_true (by omega)
   have q2:decide (0≤((j+1:Nat):Int) - 1)=true:=decide_eq_true (by omega)
   have q3:decide (((j+1:Nat):Int) - 1<(((m.evs++[(⟨p,opAt m p,⟨0,0⟩,m.time,-1⟩:Ev)]).map evA).length:Int))=true:=decide_eq_true (by rw [List.length_map];omega)
   have hti:(((j+1:Nat):Int) - 1).toNat=j:=by omega
   have r2:((m.evs++[(⟨p,opAt m p,⟨0,0⟩,m.time,-1⟩:Ev)]).map evA)[(((j+1:Nat):Int) - 1).toNat]?=some (evA ((m.evs++[(⟨p,opAt m p,⟨0,0⟩,m.time,-1⟩:Ev)]).getD j default)):=by rw [hti];exact Xe hj
   have st1:=r2
   have hL:(((j+1:Nat):Int) - 1).toNat<((m.evs++[(⟨p,opAt m p,⟨0,0⟩,m.time,-1⟩:Ev)]).map evA).length:=by rw [hti,List.length_map];exact hj
   have x8:=fun {row:List AV} {x y:R}=>Xn (x:=x) (y:=y) (Xlp (j:=(((j+1:Nat):Int) - 1).toNat) (x:=row) q3)
   have hwj:IntKind.i64.wrap (((j+1:Nat):Int) - 1 - 1)=(j:Int) - 1:=by rw [Xc (by omega) (by omega)];omega
   by_cases he:((m.evs++[(⟨p,opAt m p,⟨0,0⟩,m.time,-1⟩:Ev)]).getD j default).th=(p:Int)
   ·have b1:(((m.evs++[(⟨p,opAt m p,⟨0,0⟩,m.time,-1⟩:Ev)]).getD j default).th==(p:Int))=true:=Yk he
    rw [show Zk (m.evs++[(⟨p,opAt m p,⟨0,0⟩,m.time,-1⟩:Ev)]) p m.time (s2.th p).res (j+1)=(m.evs++[(⟨p,opAt m p,⟨0,0⟩,m.time,-1⟩:Ev)]).set j {(m.evs++[(⟨p,opAt m p,⟨0,0⟩,m.time,-1⟩:Ev)]).getD j default with en:=m.time,res:=(s2.th p).res} from if_pos he]
    refine goD ?_
    refine okM ?_
    simp only [macA,thsA,Xl,Yt,evsA,List.map_set,List.map_append,List.map_cons,List.map_nil,Zj,w1,w2,hti]
    try rfl
   ·have b1:(((m.evs++[(⟨p,opAt m p,⟨0,0⟩,m.time,-1⟩:Ev)]).getD j default).th==(p:Int))=false:=Xt he
    rw [show Zk (m.evs++[(⟨p,opAt m p,⟨0,0⟩,m.time,-1⟩:Ev)]) p m.time (s2.th p).res (j+1)=Zk (m.evs++[(⟨p,opAt m p,⟨0,0⟩,m.time,-1⟩:Ev)]) p m.time (s2.th p).res j from if_neg he]
    refine goD ?_
    exact IH j _ _ (by omega) (by omega) (by rw [hwj];rfl) rfl
theorem Xs0 {n:Nat} {m:Mac} {p:Nat} (M:MI m) (hp:p<m.s.ths.length) (hc:canV m p=true):callP cfg (n+58) 107 [.agg (macA m),.int .i64 (p:Int)]=some ⟨.agg (macA (Um m p)),[]⟩:=by
 by_cases h:(m.s.th p).pc=0
 ·exact X5r M hp hc h
 ·exact X5q M hp hc h
theorem Xf5 {n:Nat} {m:Mac} {p:Nat} {pk:Int} (M:MI m) (hp:p<m.s.ths.length) (h0:0≤pk∧pk≤9000) (hpk:pk % (m.progs.length:Int)=(p:Int)):callP cfg (n+60) 50 [.agg (macA m),.int .i64 pk]=some ⟨.tup [.agg (macA (if canV m p=true then Um m p else m)),.bool (canV m p)],[]⟩:=by
 rw [Xa]
 have hpn:=M.pn
 have hmr:=M.mroom
 have h1:1≤m.progs.length∧m.progs.length≤4:=by omega
 have hto:=fun {n:Nat}=>Xk3 (n:=n) h0 h1
 rw [hpk] at hto
 have fq12:=@hto
 by_cases hc:canV m p=true
 ·rw [if_pos hc,hc]
  have hca:=fun {n:Nat}=>Xnd (n:=n) M hp
  rw [hc] at hca
  have fq11:=@hca
  have fq1:=fun {n:Nat}=>W9 (n:=n) M
  have fq2:=fun {n:Nat}=>Xs0 (n:=n) M hp hc
  refine goD ?_
  clear fq1 fq2
  try with_reducible rfl
 ·replace hc:canV m p=false:=by simpa using hc
  rw [if_neg (by rw [hc];simp),hc]
  have hca:=fun {n:Nat}=>Xnd (n:=n) M hp
  rw [hc] at hca
  have fq11:=@hca
  have fq1:=fun {n:Nat}=>W9 (n:=n) M
  have fq2:=fun {n:Nat}=>Z1 (n:=n) hmr
  refine goD ?_
  clear fq1 fq2
  try with_reducible rfl
theorem Xk4 {n:Nat} {c:Cf} (hc:Yp c=true):callP cfg (n+4) 208 [.agg (cfA c)]=some ⟨Xl (Za c).cells,[]⟩:=by
 rw [Xa]
 have hb:=Xm hc
 have hcc:=Xig hc
 have e0:decide (0≤ccB c)=true:=decide_eq_true (by omega)
 have e1:decide (ccB c≤ccB c)=true:=decide_eq_true (Int.le_refl _)
 have e2:decide ((ccB c).toNat*ty3.bytes≤Yf)=true:=decide_eq_true (by show _*8≤140737488355328;omega)
 have e3:decide ((0:Int)<((List.replicate (ccB c).toNat ty3.zero).length:Int))=true:=decide_eq_true (by rw [List.length_replicate];omega)
 have r1:(List.replicate (ccB c).toNat ty3.zero)[0]?=some [.int .i64 0]:=by rw [List.getElem?_replicate,if_pos (by omega)];rfl
 have st1:=r1
 have fq1:=@Xx
 have fq2:=@Yy
 have fq3:=@Zo
 have x1:=fun {x y:R}=>Xn (x:=x) (y:=y) e2
 have x2:=fun {x y:R}=>Xn (x:=x) (y:=y) e3
 refine go ?_
 clear fq1 fq2 fq3 x1 x2
 unfold Za
 simp only [Xl,List.map_set,List.map_replicate]
 rfl
set_option maxHeartbeats 4000000 in
theorem Xk5 {n:Nat} {c:Cf} (hc:Yp c=true):callP cfg (n+5) 140 [.agg (cfA c)]=some ⟨.agg (staA (Za c)),[]⟩:=by
 rw [Xa]
 have hb:=Xm hc
 have e0:decide (0≤c.cap)=true:=decide_eq_true (by omega)
 have e1:decide (c.cap≤c.cap)=true:=decide_eq_true (Int.le_refl _)
 have e2:decide (c.cap.toNat*ty3.bytes≤Yf)=true:=decide_eq_true (by show _*8≤140737488355328;omega)
 have e3:decide (0≤c.th)=true:=decide_eq_true (by omega)
 have e4:decide (c.th≤c.th)=true:=decide_eq_true (Int.le_refl _)
 have e5:decide (c.th.toNat*ty81.bytes≤Yf)=true:=decide_eq_true (by show _*232≤140737488355328;omega)
 have fq1:=@Xx
 have fq2:=fun {n:Nat}=>Xk4 (n:=n) hc
 have x1:=fun {x y:R}=>Xn (x:=x) (y:=y) e2
 have x2:=fun {x y:R}=>Xn (x:=x) (y:=y) e5
 refine goD ?_
 clear fq1 fq2 x1 x2
 refine okM ?_
 unfold Za
 simp only [staA,Xl,thsA,List.map_replicate]
 rfl
theorem okMB {a b:List AV} {x:Bool} (h:a=b):some (⟨.tup [.agg a,.bool x],[]⟩:Res)=some ⟨.tup [.agg b,.bool x],[]⟩:=by rw [h]
set_option maxHeartbeats 4000000 in
theorem Xda {n:Nat} {c:Cf} {ps:List (List Op3)} (hc:Vv c ps=true):callP cfg (n+9) 73 [.agg (cfA c),Yt ps]=some ⟨.tup [.agg (macA (Uf c ps)),.bool true],[]⟩:=by
 rw [Xa]
 have hM:=X0o hc
 have hmr:=hM.mroom
 have hx:ps.length≤1048576:=hmr.2.1
 have hxs:∀ l∈ps,l.length≤1048576:=hmr.2.2.1
 have hcf:Yp c=true:=hM.si.cv.cf
 have hb:=Xm hcf
 have e0:decide (0≤c.th)=true:=decide_eq_true (by omega)
 have e1:decide (c.th≤c.th)=true:=decide_eq_true (Int.le_refl _)
 have e2:decide (c.th.toNat*ty3.bytes≤Yf)=true:=decide_eq_true (by show _*8≤140737488355328;omega)
 have fq1:=fun {n:Nat} {c:Cf}=>Vd (n:=n) (c:=c) hx hxs
 have fq2:=fun {n:Nat}=>Xk5 (n:=n) hcf
 have fq3:=fun {n:Nat}=>U8 (n:=n) hx hxs
 have x1:=fun {x y:R}=>Xn (x:=x) (y:=y) e2
 refine goD ?_
 clear fq1 fq2 fq3 x1
 refine okMB ?_
 unfold Uf
 simp only [macA,Xl,evsA,List.map_replicate]
 rfl
def mac0:Mac:=⟨⟨⟨0,0,0,0,0,0⟩,[],[],[],0,0,0,0⟩,[],[],[],0⟩
theorem Vr {n:Nat} {l:List Op3} (hx:l.length≤1048576):callP cfg (n+3) 102 [opsA l]=some ⟨.bool (Vz l),[]⟩:=by
 rw [Xa]
 unfold Vz
 refine go ?_
 refine (Xb (fun e k=>e.set 3 (.int .i64 (k:Int))) (fun h _=>h) (fun k=>some ⟨.bool ((l.drop k).all Vx&&decide (l.length≤20)),[]⟩) l.length (by show _<18446744073709551616;omega) rfl ?_).trans rfl
 intro k f hk IH
 by_cases hlt:k<l.length
 ·have e1:=Xf (f:=opA) hlt
  have e2:=Xg k
  have r1:=Xe (f:=opA) hlt
  have hw:=Xv (k:=k) (by omega)
  rw [Xq hlt,List.all_cons]
  by_cases hv:Vx (l.getD k default)=true
  ·rw [hv,Bool.true_and]
   have fq1:=@Yn
   refine go ?_
   clear fq1
   try with_reducible rfl
   exact IH hlt _ _ (by rw [hw];rfl) rfl
  ·replace hv:Vx (l.getD k default)=false:=by simpa only [Bool.not_eq_true] using hv
   rw [hv,Bool.false_and]
   have fq1:=@Yn
   refine go ?_
   clear fq1
   try with_reducible rfl
   all_goals rfl
 ·have e1:=Xh (f:=opA) (Nat.le_of_not_lt hlt)
  rw [List.drop_eq_nil_of_le (by omega)]
  by_cases h20:l.length≤20
  ·have b:decide ((((l.map opA).length:Nat):Int)≤20)=true:=decide_eq_true (by rw [List.length_map];omega)
   rw [decide_eq_true h20]
   refine go ?_
   try with_reducible rfl
   all_goals exact okB b
  ·have b:decide ((((l.map opA).length:Nat):Int)≤20)=false:=decide_eq_false (by rw [List.length_map];omega)
   rw [decide_eq_false h20]
   refine go ?_
   try with_reducible rfl
   all_goals exact okB b
structure Scr where
 c:Cf
 ps:List (List Op3)
 picks:List Int
 deriving Inhabited
abbrev scrA (x:Scr):List AV:=[.int .i64 x.c.th,.int .i64 x.c.keys,.int .i64 x.c.cap,.int .i64 x.c.b,.int .i64 x.c.p,.int .i64 x.c.cm,Yt x.ps,Xl x.picks]
def scrB (x:Scr):Bool:=Vv x.c x.ps&&(decide (x.picks.length≤400)&&x.picks.all fun n=>inB n 0 9)
def Scr.room (x:Scr):Prop:=x.ps.length≤1048576∧(∀ l∈x.ps,l.length≤1048576)∧x.picks.length≤1048576
theorem Xdb {n:Nat} {k:Int}:callP cfg (n+2) 139 [.int .i64 k]=some ⟨.bool (!inB k 0 9),[]⟩:=by
 rw [Xa]
 have fq1:=@X1
 refine go ?_
 clear fq1
 try with_reducible rfl
 all_goals rfl
theorem X5s {n:Nat} {xs:List Int} (hx:xs.length≤maxLen):callP cfg (n+3) 207 [Xl xs,.fn 139 []]=some ⟨.int .i64 (idxF (fun n=>!inB n 0 9) 0 xs),[]⟩:=by
 unfold maxLen at hx
 rw [Xa]
 refine go ?_
 refine (Xb (fun e k=>e.set 8 (.int .i64 (k:Int))) (fun h _=>h) (fun k=>some ⟨.int .i64 (idxF (fun n=>!inB n 0 9) k (xs.drop k)),[]⟩) xs.length (by show _<18446744073709551616;omega) rfl ?_).trans rfl
 intro k f hk IH
 by_cases hlt:k<xs.length
 ·have e1:=Xf (f:=iA) hlt
  have e2:=Xg k
  have r1:=Xe (f:=iA) hlt
  have hw:=Xv (k:=k) (by omega)
  rw [Xq hlt]
  by_cases hv:(fun n=>!inB n 0 9) (xs.getD k default)=true
  ·have hi:idxF (fun n=>!inB n 0 9) k (xs.getD k default::xs.drop (k+1))=(k:Int):=if_pos hv
   rw [hi]
   have fq1:=@Xdb
   refine go ?_
   clear fq1
   try with_reducible rfl
  ·have hv':(fun n=>!inB n 0 9) (xs.getD k default)=false:=by simpa using hv
   have hi:idxF (fun n=>!inB n 0 9) k (xs.getD k default::xs.drop (k+1))=idxF (fun n=>!inB n 0 9) (k+1) (xs.drop (k+1)):=if_neg hv
   rw [hi]
   have fq1:=@Xdb
   refine go ?_
   clear fq1
   try with_reducible rfl
   exact IH hlt _ _ (by rw [hw];rfl) rfl
 ·have e1:=Xh (f:=iA) (Nat.le_of_not_lt hlt)
  rw [List.drop_eq_nil_of_le (by omega)]
  refine go ?_
  try with_reducible rfl
  rfl
theorem X61 {n:Nat} {xs:List Int} (hx:xs.length≤maxLen):callP cfg (n+4) 138 [Xl xs,.fn 139 []]=some ⟨.bool (xs.any (fun n=>!inB n 0 9)),[]⟩:=by
 rw [Xa]
 have fq1:=fun {n:Nat}=>X5s (n:=n) hx
 refine go ?_
 clear fq1
 try with_reducible rfl
 rw [←V5 _ _ 0]
theorem Vk {n:Nat} {x:Scr} (hx:x.room):callP cfg (n+9) 72 [.agg (scrA x)]=some ⟨.bool (scrB x),[]⟩:=by
 rw [Xa]
 obtain ⟨h1,h2,h3⟩:=hx
 have hx2:x.picks.length≤maxLen:=by unfold maxLen;omega
 unfold scrB
 by_cases a1:Vv x.c x.ps=true
 ·rw [a1,Bool.true_and]
  by_cases a2:x.picks.length≤400
  ·have b2:decide (((x.picks.map iA).length:Int)≤400)=true:=decide_eq_true (by rw [List.length_map];omega)
   rw [decide_eq_true a2,Bool.true_and,←Xkx]
   have fq1:=fun {n:Nat} {c:Cf}=>Vd (n:=n) (c:=c) h1 h2
   have fq2:=fun {n:Nat}=>X61 (n:=n) hx2
   refine go ?_
   clear fq1 fq2
   try with_reducible rfl
   all_goals rfl
  ·have b2:decide (((x.picks.map iA).length:Int)≤400)=false:=decide_eq_false (by rw [List.length_map];omega)
   rw [decide_eq_false a2,Bool.false_and]
   have fq1:=fun {n:Nat} {c:Cf}=>Vd (n:=n) (c:=c) h1 h2
   refine go ?_
   clear fq1
   try with_reducible rfl
   all_goals rfl
 ·replace a1:Vv x.c x.ps=false:=by simpa using a1
  rw [a1,Bool.false_and]
  have fq1:=fun {n:Nat} {c:Cf}=>Vd (n:=n) (c:=c) h1 h2
  refine go ?_
  clear fq1
  try with_reducible rfl
  all_goals rfl
set_option maxHeartbeats 4000000 in
theorem Ws {n:Nat} {x:Scr} (hx:x.room):callP cfg (n+4) 47 [.agg (scrA x)]=some ⟨.bool (scrB x),[]⟩:=by
 rw [Xa]
 obtain ⟨h1,h2,h3⟩:=hx
 unfold scrB Vv eqI
 by_cases a0:Yp x.c=true
 ·rw [a0,Bool.true_and]
  by_cases a1:(x.ps.length:Int)=x.c.th
  ·have b1:(((x.ps.map Xp).length:Int) !=x.c.th)=false:=Yb (by rw [List.length_map];exact a1)
   rw [decide_eq_true a1,Bool.true_and]
   by_cases a2:x.picks.length≤400
   ·have b2:decide (((x.picks.map iA).length:Int)>400)=false:=decide_eq_false (by rw [List.length_map];omega)
    rw [decide_eq_true a2,Bool.true_and]
    have fq1:=@X0
    refine go ?_
    clear fq1
    refine (Xb (fun e k=>e.set 3 (.int .i64 (k:Int))) (fun h _=>h) (fun k=>some ⟨.bool ((x.ps.drop k).all Vz&&x.picks.all fun n=>inB n 0 9),[]⟩) x.ps.length (by show _<18446744073709551616;omega) rfl ?_).trans rfl
    intro k f hk IH
    by_cases hlt:k<x.ps.length
    ·have e1:=Xf (f:=Xp) hlt
     have e2:=Xg k
     have r1:=Xe (f:=Xp) hlt
     have hw:=Xv (k:=k) (by omega)
     have hm:=h2 _ (Xi hlt)
     rw [Xq hlt,List.all_cons]
     by_cases hv:Vz (x.ps.getD k default)=true
     ·rw [hv,Bool.true_and]
      have fq1:=fun {n:Nat}=>Vr (n:=n) hm
      refine go ?_
      clear fq1
      try with_reducible rfl
      exact IH hlt _ _ (by rw [hw];rfl) rfl
     ·replace hv:Vz (x.ps.getD k default)=false:=by simpa only [Bool.not_eq_true] using hv
      rw [hv,Bool.false_and,Bool.false_and]
      have fq1:=fun {n:Nat}=>Vr (n:=n) hm
      refine go ?_
      clear fq1
      try with_reducible rfl
      all_goals rfl
    ·have e1:=Xh (f:=Xp) (Nat.le_of_not_lt hlt)
     rw [List.drop_eq_nil_of_le (by omega),show (([]:List (List Op3)).all Vz)=true from rfl,Bool.true_and]
     refine go ?_
     refine (Xb (fun e k=>e.set 4 (.int .i64 (k:Int))) (fun h _=>h) (fun k=>some ⟨.bool ((x.picks.drop k).all fun n=>inB n 0 9),[]⟩) x.picks.length (by show _<18446744073709551616;omega) rfl ?_).trans rfl
     intro k f hk IH
     by_cases hlt:k<x.picks.length
     ·have e1:=Xf (f:=iA) hlt
      have e2:=Xg k
      have r1:=Xe (f:=iA) hlt
      have hw:=Xv (k:=k) (by omega)
      rw [Xq hlt,List.all_cons]
      by_cases hv:inB (x.picks.getD k default) 0 9=true
      ·rw [hv,Bool.true_and]
       have fq1:=@Xk
       refine go ?_
       clear fq1
       try with_reducible rfl
       exact IH hlt _ _ (by rw [hw];rfl) rfl
      ·replace hv:inB (x.picks.getD k default) 0 9=false:=by simpa only [Bool.not_eq_true] using hv
       rw [hv,Bool.false_and]
       have fq1:=@Xk
       refine go ?_
       clear fq1
       try with_reducible rfl
       all_goals rfl
     ·have e1:=Xh (f:=iA) (Nat.le_of_not_lt hlt)
      rw [List.drop_eq_nil_of_le (by omega)]
      refine go ?_
      try with_reducible rfl
      all_goals rfl
   ·have b2:decide (((x.picks.map iA).length:Int)>400)=true:=decide_eq_true (by rw [List.length_map];omega)
    rw [decide_eq_false a2,Bool.false_and,Bool.and_false]
    have fq1:=@X0
    refine go ?_
    clear fq1
    try with_reducible rfl
    all_goals rfl
  ·have b1:(((x.ps.map Xp).length:Int) !=x.c.th)=true:=Zn (by rw [List.length_map];exact a1)
   rw [decide_eq_false a1,Bool.false_and,Bool.false_and]
   have fq1:=@X0
   refine go ?_
   clear fq1
   try with_reducible rfl
   all_goals rfl
 ·replace a0:Yp x.c=false:=by simpa using a0
  rw [a0,Bool.false_and,Bool.false_and]
  have fq1:=@X0
  refine go ?_
  clear fq1
  try with_reducible rfl
  all_goals rfl
def pkN (m:Mac) (pk:Int):Nat:=(pk % (m.progs.length:Int)).toNat
def doPk (m:Mac) (pk:Int):Mac:=if canV m (pkN m pk)=true then Um m (pkN m pk) else m
theorem Xs1 {m:Mac} {p:Nat}:(Um m p).progs=m.progs:=by unfold Um;split <;> rfl
theorem Xup {m:Mac} {p:Nat}:(Um m p).time=m.time+1:=by unfold Um;split <;> rfl
structure On (c:Cf) (ps:List (List Op3)) (k:Int) (m:Mac):Prop where
 mi:MI m
 pr:m.progs=ps
 cf:m.s.c=c
 tm:m.time≤k
theorem On.pn {c:Cf} {ps:List (List Op3)} {k:Int} {m:Mac} (O:On c ps k m):1≤m.progs.length∧m.progs.length≤4∧m.s.ths.length=m.progs.length:=by
 have hb:=Xm O.mi.si.cv.cf
 have:=O.mi.pn;have:=O.mi.si.cv.lt
 omega
theorem Xhl {c:Cf} {ps:List (List Op3)} {k pk:Int} {m:Mac} (O:On c ps k m) (hp:0≤pk∧pk≤9000):pkN m pk<m.s.ths.length∧pk % (m.progs.length:Int)=((pkN m pk:Nat):Int):=by
 have h:=O.pn
 have h1:0≤pk % (m.progs.length:Int):=Int.emod_nonneg _ (by omega)
 have h2:pk % (m.progs.length:Int)<(m.progs.length:Int):=Int.emod_lt_of_pos _ (by omega)
 unfold pkN
 constructor <;> omega
theorem X28 {m:Mac} {p:Nat} (M:MI m) (hp:p<m.s.ths.length):(Um m p).s.c=m.s.c:=by
 unfold Um
 split
 ·rename_i h
  exact (Xct M.si hp M.ns h).len.2
 ·rfl
theorem On.step {c:Cf} {ps:List (List Op3)} {k pk:Int} {m:Mac} (O:On c ps k m) (hp:0≤pk∧pk≤9000):On c ps (k+1) (doPk m pk):=by
 obtain ⟨h1,h2⟩:=Xhl O hp
 have:=O.tm
 unfold doPk
 split
 ·rename_i hc
  exact ⟨O.mi.pick h1 hc,Xs1.trans O.pr,(X28 O.mi h1).trans O.cf,by rw [Xup];omega⟩
 ·exact ⟨O.mi,O.pr,O.cf,by omega⟩
theorem On.new {c:Cf} {ps:List (List Op3)} (hc:Vv c ps=true):On c ps 0 (Uf c ps):=⟨X0o hc,rfl,rfl,by unfold Uf;exact Int.le_refl _⟩
theorem Xqw {x:Scr} (hs:scrB x=true) {k:Nat} (h:k<x.picks.length):0≤x.picks.getD k default∧x.picks.getD k default≤9000:=by
 unfold scrB at hs
 simp only [Bool.and_eq_true,List.all_eq_true] at hs
 have:=hs.2.2 _ (Xi h)
 unfold inB at this
 have h2:=this
 simp only [Bool.and_eq_true,decide_eq_true_eq] at h2
 exact ⟨h2.1,by omega⟩
theorem Xkf {x:Scr} (hs:scrB x=true):Vv x.c x.ps=true:=by
 unfold scrB at hs
 simp only [Bool.and_eq_true] at hs
 exact hs.1
theorem Xep {x:Scr} (hs:scrB x=true):x.picks.length≤400:=by
 unfold scrB at hs
 simp only [Bool.and_eq_true,decide_eq_true_eq] at hs
 exact hs.2.1
def Scr.len (x:Scr):Prop:=x.ps.length≤maxLen∧(∀ l∈x.ps,l.length≤maxLen)∧x.picks.length≤maxLen
instance:DecidableEq Scr:=fun a b=>decidable_of_iff (a.c=b.c∧a.ps=b.ps∧a.picks=b.picks) ⟨fun h=>by cases a;cases b;simp_all,fun h=>by rw [h];exact ⟨rfl,rfl,rfl⟩⟩
theorem Xi1 {α:Type} {f:α→List AV} {Q:α→Prop}:∀ {rows:List (List AV)},(∀ row∈rows,∃ x,row=f x∧Q x)→∃ xs:List α,rows=xs.map f∧∀ x∈xs,Q x
 | [],_=>⟨[],rfl,fun x h=>by cases h⟩
 | row::rows,h=>by
   obtain ⟨x,hx,hQ⟩:=h row (List.mem_cons_self ..)
   obtain ⟨xs,hxs,hQs⟩:=Xi1 (rows:=rows) fun r hr=>h r (List.mem_cons_of_mem _ hr)
   refine ⟨x::xs,by rw [hx,hxs];rfl,fun y hy=>?_⟩
   rcases List.mem_cons.1 hy with rfl | hy
   ·exact hQ
   ·exact hQs y hy
noncomputable def rp (m:Mac) (l:List Int) (k:Nat):Mac:=(l.take k).foldl doPk m
theorem Xqz {m:Mac} {l:List Int}:rp m l 0=m:=by unfold rp;rw [List.take_zero];rfl
theorem Xq0 {m:Mac} {l:List Int} {k:Nat} (h:k<l.length):rp m l (k+1)=doPk (rp m l k) (l.getD k default):=by
 unfold rp
 have e:l.getD k default=l[k]:=by simp [List.getD,h]
 rw [List.take_add_one,List.getElem?_eq_getElem h,List.foldl_append,e]
 rfl
theorem Xwl {c:Cf} {ps:List (List Op3)} {m:Mac} {l:List Int} {t:Int} (O:On c ps t m) (hl:∀ a∈l,0≤a∧a≤9000):∀ {k:Nat},k≤l.length→On c ps (t+(k:Int)) (rp m l k)
 | 0,_=>by rw [Xqz];simpa using O
 | k+1,h=>by
   rw [Xq0 h]
   have:=(Xwl O hl (k:=k) (Nat.le_of_lt h)).step (hl _ (Xi (Nat.lt_of_succ_le h)))
   rw [show t+((k+1:Nat):Int)=t+(k:Int)+1 by omega]
   exact this
set_option maxHeartbeats 8000000 in
theorem Xk8 {n:Nat} {c:Cf} {ps:List (List Op3)} {m:Mac} {l:List Int} (O:On c ps 0 m) (hl:∀ a∈l,0≤a∧a≤9000) (hn:l.length≤400):callP cfg (n+61) 74 [.agg (macA m),Xl l]=some ⟨.agg (macA (rp m l l.length)),[]⟩:=by
 rw [Xa]
 have hmr:m.room:=O.mi.mroom
 have hmin:(if false=true then max (2000:Int) ((l.map iA).length:Int) else min (2000:Int) ((l.map iA).length:Int))=(l.length:Int):=by rw [if_neg (by simp),List.length_map];omega
 have b0:decide (0≤(if false=true then max (2000:Int) ((l.map iA).length:Int) else min (2000:Int) ((l.map iA).length:Int)))=true:=by rw [hmin];exact decide_eq_true (by omega)
 have b1:decide ((if false=true then max (2000:Int) ((l.map iA).length:Int) else min (2000:Int) ((l.map iA).length:Int))≤((l.map iA).length:Int))=true:=by rw [hmin,List.length_map];exact decide_eq_true (by omega)
 have fq1:=fun {n:Nat}=>Z1 (n:=n) hmr
 refine goD ?_
 clear fq1
 have hN:(if false=true then max (2000:Int) ((l.map iA).length:Int) else min (2000:Int) ((l.map iA).length:Int)).toNat - Int.toNat 0=l.length:=by rw [hmin];simp
 refine (Xb (fun e k=>e.set 16 (.int .i64 (k:Int))) (fun h k=>h.set 4 (some ⟨false,false,true,17,[[.int .i64 (rp m l k).s.c.th,.int .i64 (rp m l k).s.c.keys,.int .i64 (rp m l k).s.c.cap,.int .i64 (rp m l k).s.c.b,.int .i64 (rp m l k).s.c.p,.int .i64 (rp m l k).s.c.cm,Xl (rp m l k).s.cells,Xl (rp m l k).s.gens,thsA (rp m l k).s.ths,.int .i64 (rp m l k).s.steps,.int .i64 (rp m l k).s.changes,.int .i64 (rp m l k).s.retries,.int .i64 (rp m l k).s.faults,Yt (rp m l k).progs,Xl (rp m l k).next,evsA (rp m l k).evs,.int .i64 (rp m l k).time]]⟩)) (fun _=>some ⟨.agg (macA (rp m l l.length)),[]⟩) l.length (by show _<18446744073709551616;omega) (by rw [Xqz];rfl) ?_).trans rfl
 intro k f hk IH
 by_cases hlt:k<l.length
 ·have e1:=Xf (f:=iA) hlt
  have e2:=Xg k
  have e3:decide ((k:Int)<(((if false=true then max (2000:Int) ((l.map iA).length:Int) else min (2000:Int) ((l.map iA).length:Int)).toNat - Int.toNat 0:Nat):Int))=true:=by rw [hN];exact decide_eq_true (by omega)
  have r1:=Xe (f:=iA) hlt
  have hw:=Xv (k:=k) (by omega)
  have O1:=Xwl O hl hk
  have hpk:=hl _ (Xi hlt)
  obtain ⟨q1,q2⟩:=Xhl O1 hpk
  have hPk:∀ {n:Nat},callP cfg (n+60) 50 [.agg (macA (rp m l k)),.int .i64 (l.getD k default)]=some ⟨.tup [.agg (macA (doPk (rp m l k) (l.getD k default))),.bool (canV (rp m l k) (pkN (rp m l k) (l.getD k default)))],[]⟩:=fun {n}=>Xf5 (n:=n) O1.mi q1 hpk q2
  have fq12:=@hPk
  refine go ?_
  try with_reducible rfl
  skip
  exact IH hlt _ _ (by rw [hw];rfl) (by rw [Xq0 hlt];rfl)
 ·obtain rfl:k=l.length:=by omega
  have e3:decide ((l.length:Int)<(((if false=true then max (2000:Int) ((l.map iA).length:Int) else min (2000:Int) ((l.map iA).length:Int)).toNat - Int.toNat 0:Nat):Int))=false:=by rw [hN];exact decide_eq_false (by omega)
  refine go ?_
  try with_reducible rfl
  all_goals rfl
noncomputable def rsV (x:Scr):Mac:=rp (Uf x.c x.ps) x.picks x.picks.length
theorem Xq1 {x:Scr} (hs:scrB x=true):∀ a∈x.picks,0≤a∧a≤9000:=fun a ha=>by
 obtain ⟨i,hi,rfl⟩:=mem_get ha
 exact Xqw hs hi
theorem Xng {x:Scr} (hs:scrB x=true):On x.c x.ps (x.picks.length:Int) (rsV x):=by
 have:=Xwl (On.new (Xkf hs)) (Xq1 hs) (Nat.le_refl x.picks.length)
 rw [Int.zero_add] at this
 exact this
set_option maxHeartbeats 4000000 in
theorem Xd4 {n:Nat} {x:Scr} (hx:x.room):callP cfg (n+62) 18 [.agg (scrA x)]=some ⟨.tup [.agg (if scrB x=true then macA (rsV x) else macA mac0),.bool (scrB x)],[]⟩:=by
 rw [Xa]
 obtain ⟨h1,h2,h3⟩:=id hx
 by_cases hs:scrB x=true
 ·rw [if_pos hs,hs]
  have hpr:=Xkf hs
  have hls:=Xep hs
  have O:=On.new hpr
  have hal:=Xq1 hs
  have hI:=fun {n:Nat}=>Vk (n:=n) hx
  rw [hs] at hI
  have fq12:=@hI
  have fq1:=fun {n:Nat}=>Xda (n:=n) hpr
  have fq2:=fun {n:Nat}=>Xk8 (n:=n) O hal hls
  refine go ?_
  clear fq1 fq2
  try with_reducible rfl
  all_goals rfl
 ·replace hs:scrB x=false:=by simpa using hs
  rw [if_neg (by rw [hs];simp),hs]
  have hI:=fun {n:Nat}=>Vk (n:=n) hx
  rw [hs] at hI
  have fq12:=@hI
  refine go ?_
  try with_reducible rfl
  all_goals rfl
end Go.Proofs.YtbploohjimpcaaaGreat.A
