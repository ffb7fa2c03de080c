/- What the program's functions answer (Gn): no condition. -/
import Derived.Test.YtbploohjimpcaaaGreatGi
import Derived.Test.YtbploohjimpcaaaGreatGg
import Derived.Test.YtbploohjimpcaaaGreatLib3
import Derived.Test.YtbploohjimpcaaaGreatGe
import Derived.Test.YtbploohjimpcaaaGreatGk
set_option linter.unusedVariables false
set_option linter.unusedSimpArgs false
namespace Go.Proofs.YtbploohjimpcaaaGreat.A
open Go Go.Abs
set_option maxRecDepth 100000
theorem okS2 {a b:List AV} {x:Int} (h:a=b):some (⟨.tup [.agg a,.int .i64 x],[]⟩:Res)=some ⟨.tup [.agg b,.int .i64 x],[]⟩:=by rw [h]
set_option maxHeartbeats 16000000 in
theorem We {n:Nat} {s:Sta} {p:Nat} {o:Op3} (hs:staB s=true) (hr:s.room) (hi:s.i64) (hp:p<s.ths.length) (ho:Vx o=true):callP cfg (n+15) 259 [.agg (staA s),.int .i64 (p:Int),.agg (opA o)]=some ⟨.int .i64 (refV s.c (s.th p) o),[]⟩:=by
 rw [Xa]
 obtain ⟨H,N,TT⟩:=Xfy.1 ⟨hs,hi.1⟩
 have T:TV s.c (s.th p):=TT _ (Xi hp)
 have hlt:=H.lt
 have hb:=Xm H.cf
 have hw1:IntKind.i64.wrap (((s.ths.map thA).length:Int) - 1)=(s.ths.length:Int) - 1:=by rw [List.length_map];exact Xc (by omega) (by omega)
 have g1:(decide (0≤(p:Int))&&decide ((p:Int)≤IntKind.i64.wrap (((s.ths.map thA).length:Int) - 1)))=true:=by rw [hw1];simp;omega
 have d1:=Xf (f:=thA) hp
 have d2:=Xg p
 have r1:=Xe (f:=thA) hp
 have hsn:=T.sn
 by_cases hkey:o.key≥s.c.keys
 ·rw [show refV s.c (s.th p) o=4 from by unfold refV;rw [if_pos hkey]]
  have b1:decide (o.key≥s.c.keys)=true:=decide_eq_true hkey
  have fq1:=fun {n:Nat}=>Yi (n:=n) hs hr hi hp
  have fq2:=@Ya
  refine go ?_
  clear fq1 fq2
  try with_reducible rfl
  try rfl
 ·by_cases hk1:o.k=1
  ·have hk2:¬o.k=2:=by omega
   have hk4:¬o.k=4:=by omega
   by_cases hz:(s.th p).snap=0
   ·rw [show refV s.c (s.th p) o=0 from by unfold refV;rw [if_neg hkey,if_neg (fun h=>h.2 hz),if_neg (fun h=>by have:=h.1;omega)]]
    have b1:decide (o.key≥s.c.keys)=false:=decide_eq_false hkey
    have k1:(o.k==1)=true:=Yk hk1
    have k2:(o.k==2)=false:=Xt hk2
    have k4:(o.k==4)=false:=Xt hk4
    have b2:((s.th p).snap !=0)=false:=Yb hz
    have b3:((s.th p).snap==0)=true:=Yk hz
    have fq1:=fun {n:Nat}=>Yi (n:=n) hs hr hi hp
    have fq2:=@Ya
    refine go ?_
    clear fq1 fq2
    try with_reducible rfl
    try rfl
   ·rw [show refV s.c (s.th p) o=6 from by unfold refV;rw [if_neg hkey,if_pos ⟨hk1,hz⟩]]
    have b1:decide (o.key≥s.c.keys)=false:=decide_eq_false hkey
    have k1:(o.k==1)=true:=Yk hk1
    have k2:(o.k==2)=false:=Xt hk2
    have k4:(o.k==4)=false:=Xt hk4
    have b2:((s.th p).snap !=0)=true:=Zn hz
    have b3:((s.th p).snap==0)=false:=Xt hz
    have fq1:=fun {n:Nat}=>Yi (n:=n) hs hr hi hp
    have fq2:=@Ya
    refine go ?_
    clear fq1 fq2
    try with_reducible rfl
    try rfl
  ·by_cases hk2:o.k=2
   ·have hk4:¬o.k=4:=by omega
    by_cases hz:(s.th p).snap=0
    ·rw [show refV s.c (s.th p) o=3 from by unfold refV;rw [if_neg hkey,if_neg (fun h=>hk1 h.1),if_pos ⟨.inl hk2,hz⟩]]
     have b1:decide (o.key≥s.c.keys)=false:=decide_eq_false hkey
     have k1:(o.k==1)=false:=Xt hk1
     have k2:(o.k==2)=true:=Yk hk2
     have k4:(o.k==4)=false:=Xt hk4
     have b2:((s.th p).snap !=0)=false:=Yb hz
     have b3:((s.th p).snap==0)=true:=Yk hz
     have fq1:=fun {n:Nat}=>Yi (n:=n) hs hr hi hp
     have fq2:=@Ya
     refine go ?_
     clear fq1 fq2
     try with_reducible rfl
     try rfl
    ·rw [show refV s.c (s.th p) o=0 from by unfold refV;rw [if_neg hkey,if_neg (fun h=>hk1 h.1),if_neg (fun h=>hz h.2)]]
     have b1:decide (o.key≥s.c.keys)=false:=decide_eq_false hkey
     have k1:(o.k==1)=false:=Xt hk1
     have k2:(o.k==2)=true:=Yk hk2
     have k4:(o.k==4)=false:=Xt hk4
     have b2:((s.th p).snap !=0)=true:=Zn hz
     have b3:((s.th p).snap==0)=false:=Xt hz
     have fq1:=fun {n:Nat}=>Yi (n:=n) hs hr hi hp
     have fq2:=@Ya
     refine go ?_
     clear fq1 fq2
     try with_reducible rfl
     try rfl
   ·by_cases hk4:o.k=4
    ·by_cases hz:(s.th p).snap=0
     ·rw [show refV s.c (s.th p) o=3 from by unfold refV;rw [if_neg hkey,if_neg (fun h=>hk1 h.1),if_pos ⟨.inr hk4,hz⟩]]
      have b1:decide (o.key≥s.c.keys)=false:=decide_eq_false hkey
      have k1:(o.k==1)=false:=Xt hk1
      have k2:(o.k==2)=false:=Xt hk2
      have k4:(o.k==4)=true:=Yk hk4
      have b2:((s.th p).snap !=0)=false:=Yb hz
      have b3:((s.th p).snap==0)=true:=Yk hz
      have fq1:=fun {n:Nat}=>Yi (n:=n) hs hr hi hp
      have fq2:=@Ya
      refine go ?_
      clear fq1 fq2
      try with_reducible rfl
      try rfl
     ·rw [show refV s.c (s.th p) o=0 from by unfold refV;rw [if_neg hkey,if_neg (fun h=>hk1 h.1),if_neg (fun h=>hz h.2)]]
      have b1:decide (o.key≥s.c.keys)=false:=decide_eq_false hkey
      have k1:(o.k==1)=false:=Xt hk1
      have k2:(o.k==2)=false:=Xt hk2
      have k4:(o.k==4)=true:=Yk hk4
      have b2:((s.th p).snap !=0)=true:=Zn hz
      have b3:((s.th p).snap==0)=false:=Xt hz
      have fq1:=fun {n:Nat}=>Yi (n:=n) hs hr hi hp
      have fq2:=@Ya
      refine go ?_
      clear fq1 fq2
      try with_reducible rfl
      try rfl
    ·by_cases hz:(s.th p).snap=0
     ·rw [show refV s.c (s.th p) o=0 from by unfold refV;rw [if_neg hkey,if_neg (fun h=>hk1 h.1),if_neg (fun h=>h.1.elim hk2 hk4)]]
      have b1:decide (o.key≥s.c.keys)=false:=decide_eq_false hkey
      have k1:(o.k==1)=false:=Xt hk1
      have k2:(o.k==2)=false:=Xt hk2
      have k4:(o.k==4)=false:=Xt hk4
      have b2:((s.th p).snap !=0)=false:=Yb hz
      have b3:((s.th p).snap==0)=true:=Yk hz
      have fq1:=fun {n:Nat}=>Yi (n:=n) hs hr hi hp
      have fq2:=@Ya
      refine go ?_
      clear fq1 fq2
      try with_reducible rfl
      try rfl
     ·rw [show refV s.c (s.th p) o=0 from by unfold refV;rw [if_neg hkey,if_neg (fun h=>hk1 h.1),if_neg (fun h=>h.1.elim hk2 hk4)]]
      have b1:decide (o.key≥s.c.keys)=false:=decide_eq_false hkey
      have k1:(o.k==1)=false:=Xt hk1
      have k2:(o.k==2)=false:=Xt hk2
      have k4:(o.k==4)=false:=Xt hk4
      have b2:((s.th p).snap !=0)=true:=Zn hz
      have b3:((s.th p).snap==0)=false:=Xt hz
      have fq1:=fun {n:Nat}=>Yi (n:=n) hs hr hi hp
      have fq2:=@Ya
      refine go ?_
      clear fq1 fq2
      try with_reducible rfl
      try rfl
set_option maxHeartbeats 16000000 in
theorem Xf4 {n:Nat} {s:Sta} {p:Nat} {o:Op3} (hs:staB s=true) (hr:s.room) (hi:s.i64) (hp:p<s.ths.length) (ho:Vx o=true) (h:(s.th p).pc=0):callP cfg (n+16) 168 [.agg (staA s),.int .i64 (p:Int),.agg (opA o)]=some ⟨.tup [.agg (staA (Y5 s p o)),.int .i64 (if (refV s.c (s.th p) o)=0 then 1 else 2)],[]⟩:=by
 rw [Xa]
 obtain ⟨H,N,TT⟩:=Xfy.1 ⟨hs,hi.1⟩
 have T:TV s.c (s.th p):=TT _ (Xi hp)
 have hlt:=H.lt
 have hlg:=H.lg
 have hb:=Xm H.cf
 have hro:(s.th p).room:=hr.2.2.2 _ (Xi hp)
 have hrun:runB s p=false:=decide_eq_false (by simpa using h)
 have hw1:IntKind.i64.wrap (((s.ths.map thA).length:Int) - 1)=(s.ths.length:Int) - 1:=by rw [List.length_map];exact Xc (by omega) (by omega)
 have g1:(decide (0≤(p:Int))&&decide ((p:Int)≤IntKind.i64.wrap (((s.ths.map thA).length:Int) - 1)))=true:=by rw [hw1];simp;omega
 have d1:=Xf (f:=thA) hp
 have d2:=Xg p
 have r1:(s.ths.map thA)[p]?=some (thR 0 (s.th p)):=by rw [←h];exact Xe hp
 have hL:p<(s.ths.map thA).length:=by rw [List.length_map];exact hp
 by_cases hv:(refV s.c (s.th p) o)=0
 ·by_cases hk1:o.k=1
  ·have v0:((refV s.c (s.th p) o) !=0)=false:=Yb hv
   have hz0:(0:Int)=0:=rfl
   have k1:(o.k==1)=true:=Yk hk1
   have x8:=fun {row:List AV} {x y:R}=>Xn (x:=x) (y:=y) (Uv (j:=p) (x:=row) hL)
   rw [show Y5 s p o=setT s p {({clr (s.th p) with pc:=0,op:=o,res:=⟨0,0⟩}:Th) with pc:=1} from by unfold Y5 V8;rw [if_pos hv];unfold begT;dsimp only;rw [if_pos hk1],if_pos hv]
   have st1:=r1
   have fq1:=fun {n:Nat}=>Yz (n:=n) hr
   have fq2:=fun {n:Nat}=>Yi (n:=n) hs hr hi hp
   have fq3:=@Ya
   have fq4:=fun {n:Nat}=>We (n:=n) hs hr hi hp ho
   refine goD ?_
   clear fq1 fq2 fq3 fq4
   refine okS2 ?_
   simp only [staA,thsA,Xl,Yu,setT,clr,List.map_set,thA,hv]
   try rfl
  ·by_cases hk2:o.k=2
   ·have v0:((refV s.c (s.th p) o) !=0)=false:=Yb hv
    have hz0:(0:Int)=0:=rfl
    have k1:(o.k==1)=false:=Xt (by omega)
    have k2:(o.k==2)=true:=Yk hk2
    have x8:=fun {row:List AV} {x y:R}=>Xn (x:=x) (y:=y) (Uv (j:=p) (x:=row) hL)
    rw [show Y5 s p o=setT s p {({clr (s.th p) with pc:=0,op:=o,res:=⟨0,0⟩}:Th) with pc:=10} from by unfold Y5 V8;rw [if_pos hv];unfold begT;dsimp only;rw [if_neg (show ¬o.k=1 by omega),if_pos hk2],if_pos hv]
    have st1:=r1
    have fq1:=fun {n:Nat}=>Yz (n:=n) hr
    have fq2:=fun {n:Nat}=>Yi (n:=n) hs hr hi hp
    have fq3:=@Ya
    have fq4:=fun {n:Nat}=>We (n:=n) hs hr hi hp ho
    refine goD ?_
    clear fq1 fq2 fq3 fq4
    refine okS2 ?_
    simp only [staA,thsA,Xl,Yu,setT,clr,List.map_set,thA,hv]
    try rfl
   ·by_cases hk4:o.k=4
    ·have v0:((refV s.c (s.th p) o) !=0)=false:=Yb hv
     have hz0:(0:Int)=0:=rfl
     have k1:(o.k==1)=false:=Xt (by omega)
     have k2:(o.k==2)=false:=Xt (by omega)
     have k4:(o.k==4)=true:=Yk hk4
     have x8:=fun {row:List AV} {x y:R}=>Xn (x:=x) (y:=y) (Uv (j:=p) (x:=row) hL)
     rw [show Y5 s p o=setT s p {({clr (s.th p) with pc:=0,op:=o,res:=⟨0,0⟩}:Th) with pc:=80} from by unfold Y5 V8;rw [if_pos hv];unfold begT;dsimp only;rw [if_neg (show ¬o.k=1 by omega),if_neg (show ¬o.k=2 by omega),if_pos hk4],if_pos hv]
     have st1:=r1
     have fq1:=fun {n:Nat}=>Yz (n:=n) hr
     have fq2:=fun {n:Nat}=>Yi (n:=n) hs hr hi hp
     have fq3:=@Ya
     have fq4:=fun {n:Nat}=>We (n:=n) hs hr hi hp ho
     refine goD ?_
     clear fq1 fq2 fq3 fq4
     refine okS2 ?_
     simp only [staA,thsA,Xl,Yu,setT,clr,List.map_set,thA,hv]
     try rfl
    ·by_cases hk5:o.k=5
     ·have v0:((refV s.c (s.th p) o) !=0)=false:=Yb hv
      have hz0:(0:Int)=0:=rfl
      have k1:(o.k==1)=false:=Xt (by omega)
      have k2:(o.k==2)=false:=Xt (by omega)
      have k4:(o.k==4)=false:=Xt (by omega)
      have k5:(o.k==5)=true:=Yk hk5
      have x8:=fun {row:List AV} {x y:R}=>Xn (x:=x) (y:=y) (Uv (j:=p) (x:=row) hL)
      rw [show Y5 s p o=setT s p {({clr (s.th p) with pc:=0,op:=o,res:=⟨0,0⟩}:Th) with pc:=50} from by unfold Y5 V8;rw [if_pos hv];unfold begT;dsimp only;rw [if_neg (show ¬o.k=1 by omega),if_neg (show ¬o.k=2 by omega),if_neg (show ¬o.k=4 by omega),if_pos hk5],if_pos hv]
      have st1:=r1
      have fq1:=fun {n:Nat}=>Yz (n:=n) hr
      have fq2:=fun {n:Nat}=>Yi (n:=n) hs hr hi hp
      have fq3:=@Ya
      have fq4:=fun {n:Nat}=>We (n:=n) hs hr hi hp ho
      refine goD ?_
      clear fq1 fq2 fq3 fq4
      refine okS2 ?_
      simp only [staA,thsA,Xl,Yu,setT,clr,List.map_set,thA,hv]
      try rfl
     ·have hk3:o.k=3:=by have:=Xpe ho;omega
      by_cases hf:(s.th p).free.length=0
      ·have v0:((refV s.c (s.th p) o) !=0)=false:=Yb hv
       have k1:(o.k==1)=false:=Xt (by omega)
       have k2:(o.k==2)=false:=Xt (by omega)
       have k4:(o.k==4)=false:=Xt (by omega)
       have k5:(o.k==5)=false:=Xt (by omega)
       have k3:(o.k==3)=true:=Yk hk3
       have f0:decide (((((s.th p).free.map iA).length:Int))>0)=false:=decide_eq_false (by rw [List.length_map];omega)
       have x8:=fun {row:List AV} {x y:R}=>Xn (x:=x) (y:=y) (Uv (j:=p) (x:=row) hL)
       rw [show Y5 s p o=setT s p {({clr (s.th p) with pc:=0,op:=o,res:=⟨0,0⟩}:Th) with pc:=30} from by unfold Y5 V8;rw [if_pos hv];unfold begT;dsimp only;rw [if_neg (show ¬o.k=1 by omega),if_neg (show ¬o.k=2 by omega),if_neg (show ¬o.k=4 by omega),if_neg (show ¬o.k=5 by omega),if_pos hf],if_pos hv]
       have st1:=r1
       have fq1:=fun {n:Nat}=>Yz (n:=n) hr
       have fq2:=fun {n:Nat}=>Yi (n:=n) hs hr hi hp
       have fq3:=@Ya
       have fq4:=fun {n:Nat}=>We (n:=n) hs hr hi hp ho
       refine goD ?_
       clear fq1 fq2 fq3 fq4
       refine okS2 ?_
       simp only [staA,thsA,Xl,Yu,setT,clr,List.map_set,thA,hv]
       try rfl
      ·have v0:((refV s.c (s.th p) o) !=0)=false:=Yb hv
       have k1:(o.k==1)=false:=Xt (by omega)
       have k2:(o.k==2)=false:=Xt (by omega)
       have k4:(o.k==4)=false:=Xt (by omega)
       have k5:(o.k==5)=false:=Xt (by omega)
       have k3:(o.k==3)=true:=Yk hk3
       have hfl:=hro.2.1
       have hfl2:=T.lf
       have f0:decide (((((s.th p).free.map iA).length:Int))>0)=true:=decide_eq_true (by rw [List.length_map];omega)
       have wl:(IntKind.i64.wrap ((((s.th p).free.map iA).length:Int) - 1))=(((s.th p).free.length - 1:Nat):Int):=by rw [List.length_map,Xc (by omega) (by omega)];omega
       have f1:decide (0≤(IntKind.i64.wrap ((((s.th p).free.map iA).length:Int) - 1)))=true:=by rw [wl];exact decide_eq_true (by omega)
       have f2:decide ((IntKind.i64.wrap ((((s.th p).free.map iA).length:Int) - 1))<(((s.th p).free.map iA).length:Int))=true:=by rw [wl,List.length_map];exact decide_eq_true (by omega)
       have f3:decide ((IntKind.i64.wrap ((((s.th p).free.map iA).length:Int) - 1))≤(((s.th p).free.map iA).length:Int))=true:=by rw [wl,List.length_map];exact decide_eq_true (by omega)
       have r2:((s.th p).free.map iA)[(IntKind.i64.wrap ((((s.th p).free.map iA).length:Int) - 1)).toNat]?=some (iA ((s.th p).free.getD ((s.th p).free.length - 1) default)):=by rw [wl,Int.toNat_natCast];exact Xe (by omega)
       have hxm:((s.th p).free.getD ((s.th p).free.length - 1) default)∈(s.th p).free:=Xi (by omega)
       have hxr:=T.fr _ hxm
       have hgi:((s.th p).free.getD ((s.th p).free.length - 1) default).toNat<s.gens.length:=by omega
       have hgn:=H.gn _ hgi
       have hi62:0≤((s.th p).free.getD ((s.th p).free.length - 1) default)∧((s.th p).free.getD ((s.th p).free.length - 1) default)≤62:=by omega
       have r3:(s.gens.map iA)[((s.th p).free.getD ((s.th p).free.length - 1) default).toNat]?=some (iA (s.gens.getD ((s.th p).free.getD ((s.th p).free.length - 1) default).toNat default)):=Xe hgi
       have g2:decide (0≤((s.th p).free.getD ((s.th p).free.length - 1) default))=true:=decide_eq_true hxr.1
       have g3:decide (((s.th p).free.getD ((s.th p).free.length - 1) default)<((s.gens.map iA).length:Int))=true:=decide_eq_true (by rw [List.length_map];omega)
       have go8:Qt [(0,0+8)] [(0,0+8),((p:Int).toNat,0+15)] (p:Int).toNat (0+15)=true:=by simp [Qt]
       have hT1:List.take ((IntKind.i64.wrap ((((s.th p).free.map iA).length:Int) - 1)).toNat - Int.toNat 0) (List.drop (Int.toNat 0) ((s.th p).free.map iA))=((s.th p).free.take ((s.th p).free.length - 1)).map iA:=by rw [wl,Int.toNat_natCast,List.map_take];rfl
       have hT2:List.take (IntKind.i64.wrap ((((s.th p).free.map iA).length:Int) - 1)).toNat ((s.th p).free.map iA)=((s.th p).free.take ((s.th p).free.length - 1)).map iA:=by rw [wl,Int.toNat_natCast,List.map_take]
       have x8:=fun {row:List AV} {x y:R}=>Xn (x:=x) (y:=y) (Uv (j:=p) (x:=row) hL)
       rw [show Y5 s p o=setT s p {({clr (s.th p) with pc:=0,op:=o,res:=⟨0,0⟩}:Th) with pc:=32,free:=(s.th p).free.take ((s.th p).free.length - 1),node:=mkH ((s.th p).free.getD ((s.th p).free.length - 1) default) (s.gens.getD ((s.th p).free.getD ((s.th p).free.length - 1) default).toNat default)} from by unfold Y5 V8;rw [if_pos hv];unfold begT;dsimp only;rw [if_neg (show ¬o.k=1 by omega),if_neg (show ¬o.k=2 by omega),if_neg (show ¬o.k=4 by omega),if_neg (show ¬o.k=5 by omega),if_neg hf],if_pos hv]
       have st1:=r1
       have fq1:=fun {n:Nat}=>Yz (n:=n) hr
       have fq2:=fun {n:Nat}=>Yi (n:=n) hs hr hi hp
       have fq3:=@Ya
       have fq4:=fun {n:Nat}=>We (n:=n) hs hr hi hp ho
       have fq5:=fun {n:Nat}=>Xc7 (n:=n) hi62 hgn
       have x1:=fun {x y:R}=>Xn (x:=x) (y:=y) go8
       refine goD ?_
       clear fq1 fq2 fq3 fq4 fq5 x1
       refine okS2 ?_
       simp only [staA,thsA,Xl,Yu,setT,clr,List.map_set,thA,hv,hT1,hT2,Zj]
       try rfl
 ·have v0:((refV s.c (s.th p) o) !=0)=true:=Zn hv
  have x8:=fun {row:List AV} {x y:R}=>Xn (x:=x) (y:=y) (Uv (j:=p) (x:=row) hL)
  rw [show Y5 s p o=setT s p {clr (s.th p) with pc:=0,op:=o,res:=⟨(refV s.c (s.th p) o),0⟩} from by unfold Y5 V8;rw [if_neg hv],if_neg hv]
  have st1:=r1
  have fq1:=fun {n:Nat}=>Yz (n:=n) hr
  have fq2:=fun {n:Nat}=>Yi (n:=n) hs hr hi hp
  have fq3:=@Ya
  have fq4:=fun {n:Nat}=>We (n:=n) hs hr hi hp ho
  refine goD ?_
  clear fq1 fq2 fq3 fq4
  refine okS2 ?_
  simp only [staA,thsA,Xl,Yu,setT,clr,List.map_set,thA]
  try rfl
theorem Wf {n:Nat} {s:Sta} {p:Nat} (hs:staB s=true) (hr:s.room) (hi:s.i64) (hp:p<s.ths.length):callP cfg (n+7) 232 [.agg (staA s),.int .i64 (p:Int)]=some ⟨.bool (runB s p),[]⟩:=by
 rw [Xa]
 have hw1:IntKind.i64.wrap (((s.ths.map thA).length:Int) - 1)=(s.ths.length:Int) - 1:=by rw [List.length_map];exact Xc (by have:=hr.2.2.1;omega) (by have:=hr.2.2.1;omega)
 have g1:(decide (0≤(p:Int))&&decide ((p:Int)≤IntKind.i64.wrap (((s.ths.map thA).length:Int) - 1)))=true:=by rw [hw1];simp;omega
 have d1:=Xf (f:=thA) hp
 have d2:=Xg p
 have r1:=Xe (f:=thA) hp
 have fq1:=fun {n:Nat}=>Xr (n:=n) hr hi
 have fq2:=@Xk
 refine go ?_
 clear fq1 fq2
 refine okB ?_
 unfold runB
 by_cases h:(s.th p).pc=0
 ·rw [Yb h,decide_eq_false (by simpa using h)]
 ·rw [Zn h,decide_eq_true h]
set_option maxHeartbeats 16000000 in
theorem Wg {n:Nat} {s:Sta} {p:Nat} {o:Op3} (hs:staB s=true) (hr:s.room) (hi:s.i64) (hp:p<s.ths.length) (ho:Vx o=true):callP cfg (n+7) 233 [.agg (staA s),.int .i64 (p:Int),.agg (opA o)]=some ⟨.int .i64 (refV s.c (s.th p) o),[]⟩:=by
 rw [Xa]
 obtain ⟨H,N,TT⟩:=Xfy.1 ⟨hs,hi.1⟩
 have T:TV s.c (s.th p):=TT _ (Xi hp)
 have hlt:=H.lt
 have hb:=Xm H.cf
 have hw1:IntKind.i64.wrap (((s.ths.map thA).length:Int) - 1)=(s.ths.length:Int) - 1:=by rw [List.length_map];exact Xc (by omega) (by omega)
 have g1:(decide (0≤(p:Int))&&decide ((p:Int)≤IntKind.i64.wrap (((s.ths.map thA).length:Int) - 1)))=true:=by rw [hw1];simp;omega
 have d1:=Xf (f:=thA) hp
 have d2:=Xg p
 have r1:=Xe (f:=thA) hp
 have hsn:=T.sn
 by_cases hkey:o.key≥s.c.keys
 ·rw [show refV s.c (s.th p) o=4 from by unfold refV;rw [if_pos hkey]]
  have b1:decide (o.key≥s.c.keys)=true:=decide_eq_true hkey
  have fq1:=fun {n:Nat}=>Xr (n:=n) hr hi
  have fq2:=@Yn
  have fq3:=@Xk
  refine go ?_
  clear fq1 fq2 fq3
  try with_reducible rfl
  try rfl
 ·by_cases hk1:o.k=1
  ·have hk2:¬o.k=2:=by omega
   have hk4:¬o.k=4:=by omega
   by_cases hz:(s.th p).snap=0
   ·rw [show refV s.c (s.th p) o=0 from by unfold refV;rw [if_neg hkey,if_neg (fun h=>h.2 hz),if_neg (fun h=>by have:=h.1;omega)]]
    have b1:decide (o.key≥s.c.keys)=false:=decide_eq_false hkey
    have k1:(o.k==1)=true:=Yk hk1
    have k2:(o.k==2)=false:=Xt hk2
    have k4:(o.k==4)=false:=Xt hk4
    have b2:decide ((s.th p).snap>0)=false:=decide_eq_false (by omega)
    have b3:((s.th p).snap==0)=true:=Yk hz
    have fq1:=fun {n:Nat}=>Xr (n:=n) hr hi
    have fq2:=@Yn
    have fq3:=@Xk
    refine go ?_
    clear fq1 fq2 fq3
    try with_reducible rfl
    try rfl
   ·rw [show refV s.c (s.th p) o=6 from by unfold refV;rw [if_neg hkey,if_pos ⟨hk1,hz⟩]]
    have b1:decide (o.key≥s.c.keys)=false:=decide_eq_false hkey
    have k1:(o.k==1)=true:=Yk hk1
    have k2:(o.k==2)=false:=Xt hk2
    have k4:(o.k==4)=false:=Xt hk4
    have b2:decide ((s.th p).snap>0)=true:=decide_eq_true (by omega)
    have b3:((s.th p).snap==0)=false:=Xt hz
    have fq1:=fun {n:Nat}=>Xr (n:=n) hr hi
    have fq2:=@Yn
    have fq3:=@Xk
    refine go ?_
    clear fq1 fq2 fq3
    try with_reducible rfl
    try rfl
  ·by_cases hk2:o.k=2
   ·have hk4:¬o.k=4:=by omega
    by_cases hz:(s.th p).snap=0
    ·rw [show refV s.c (s.th p) o=3 from by unfold refV;rw [if_neg hkey,if_neg (fun h=>hk1 h.1),if_pos ⟨.inl hk2,hz⟩]]
     have b1:decide (o.key≥s.c.keys)=false:=decide_eq_false hkey
     have k1:(o.k==1)=false:=Xt hk1
     have k2:(o.k==2)=true:=Yk hk2
     have k4:(o.k==4)=false:=Xt hk4
     have b2:decide ((s.th p).snap>0)=false:=decide_eq_false (by omega)
     have b3:((s.th p).snap==0)=true:=Yk hz
     have fq1:=fun {n:Nat}=>Xr (n:=n) hr hi
     have fq2:=@Yn
     have fq3:=@Xk
     refine go ?_
     clear fq1 fq2 fq3
     try with_reducible rfl
     try rfl
    ·rw [show refV s.c (s.th p) o=0 from by unfold refV;rw [if_neg hkey,if_neg (fun h=>hk1 h.1),if_neg (fun h=>hz h.2)]]
     have b1:decide (o.key≥s.c.keys)=false:=decide_eq_false hkey
     have k1:(o.k==1)=false:=Xt hk1
     have k2:(o.k==2)=true:=Yk hk2
     have k4:(o.k==4)=false:=Xt hk4
     have b2:decide ((s.th p).snap>0)=true:=decide_eq_true (by omega)
     have b3:((s.th p).snap==0)=false:=Xt hz
     have fq1:=fun {n:Nat}=>Xr (n:=n) hr hi
     have fq2:=@Yn
     have fq3:=@Xk
     refine go ?_
     clear fq1 fq2 fq3
     try with_reducible rfl
     try rfl
   ·by_cases hk4:o.k=4
    ·by_cases hz:(s.th p).snap=0
     ·rw [show refV s.c (s.th p) o=3 from by unfold refV;rw [if_neg hkey,if_neg (fun h=>hk1 h.1),if_pos ⟨.inr hk4,hz⟩]]
      have b1:decide (o.key≥s.c.keys)=false:=decide_eq_false hkey
      have k1:(o.k==1)=false:=Xt hk1
      have k2:(o.k==2)=false:=Xt hk2
      have k4:(o.k==4)=true:=Yk hk4
      have b2:decide ((s.th p).snap>0)=false:=decide_eq_false (by omega)
      have b3:((s.th p).snap==0)=true:=Yk hz
      have fq1:=fun {n:Nat}=>Xr (n:=n) hr hi
      have fq2:=@Yn
      have fq3:=@Xk
      refine go ?_
      clear fq1 fq2 fq3
      try with_reducible rfl
      try rfl
     ·rw [show refV s.c (s.th p) o=0 from by unfold refV;rw [if_neg hkey,if_neg (fun h=>hk1 h.1),if_neg (fun h=>hz h.2)]]
      have b1:decide (o.key≥s.c.keys)=false:=decide_eq_false hkey
      have k1:(o.k==1)=false:=Xt hk1
      have k2:(o.k==2)=false:=Xt hk2
      have k4:(o.k==4)=true:=Yk hk4
      have b2:decide ((s.th p).snap>0)=true:=decide_eq_true (by omega)
      have b3:((s.th p).snap==0)=false:=Xt hz
      have fq1:=fun {n:Nat}=>Xr (n:=n) hr hi
      have fq2:=@Yn
      have fq3:=@Xk
      refine go ?_
      clear fq1 fq2 fq3
      try with_reducible rfl
      try rfl
    ·by_cases hz:(s.th p).snap=0
     ·rw [show refV s.c (s.th p) o=0 from by unfold refV;rw [if_neg hkey,if_neg (fun h=>hk1 h.1),if_neg (fun h=>h.1.elim hk2 hk4)]]
      have b1:decide (o.key≥s.c.keys)=false:=decide_eq_false hkey
      have k1:(o.k==1)=false:=Xt hk1
      have k2:(o.k==2)=false:=Xt hk2
      have k4:(o.k==4)=false:=Xt hk4
      have b2:decide ((s.th p).snap>0)=false:=decide_eq_false (by omega)
      have b3:((s.th p).snap==0)=true:=Yk hz
      have fq1:=fun {n:Nat}=>Xr (n:=n) hr hi
      have fq2:=@Yn
      have fq3:=@Xk
      refine go ?_
      clear fq1 fq2 fq3
      try with_reducible rfl
      try rfl
     ·rw [show refV s.c (s.th p) o=0 from by unfold refV;rw [if_neg hkey,if_neg (fun h=>hk1 h.1),if_neg (fun h=>h.1.elim hk2 hk4)]]
      have b1:decide (o.key≥s.c.keys)=false:=decide_eq_false hkey
      have k1:(o.k==1)=false:=Xt hk1
      have k2:(o.k==2)=false:=Xt hk2
      have k4:(o.k==4)=false:=Xt hk4
      have b2:decide ((s.th p).snap>0)=true:=decide_eq_true (by omega)
      have b3:((s.th p).snap==0)=false:=Xt hz
      have fq1:=fun {n:Nat}=>Xr (n:=n) hr hi
      have fq2:=@Yn
      have fq3:=@Xk
      refine go ?_
      clear fq1 fq2 fq3
      try with_reducible rfl
      try rfl
set_option maxHeartbeats 16000000 in
theorem Xna {n:Nat} {s:Sta} {p:Nat} {o:Op3} (hs:staB s=true) (hr:s.room) (hi:s.i64) (hp:p<s.ths.length) (ho:Vx o=true) (h:(s.th p).pc=0):callP cfg (n+8) 152 [.agg (staA s),.int .i64 (p:Int),.agg (opA o)]=some ⟨.tup [.agg (staA (Y5 s p o)),.int .i64 (if (refV s.c (s.th p) o)=0 then 1 else 2)],[]⟩:=by
 rw [Xa]
 obtain ⟨H,N,TT⟩:=Xfy.1 ⟨hs,hi.1⟩
 have T:TV s.c (s.th p):=TT _ (Xi hp)
 have hlt:=H.lt
 have hlg:=H.lg
 have hb:=Xm H.cf
 have hro:(s.th p).room:=hr.2.2.2 _ (Xi hp)
 have hrun:runB s p=false:=decide_eq_false (by simpa using h)
 have hw1:IntKind.i64.wrap (((s.ths.map thA).length:Int) - 1)=(s.ths.length:Int) - 1:=by rw [List.length_map];exact Xc (by omega) (by omega)
 have g1:(decide (0≤(p:Int))&&decide ((p:Int)≤IntKind.i64.wrap (((s.ths.map thA).length:Int) - 1)))=true:=by rw [hw1];simp;omega
 have d1:=Xf (f:=thA) hp
 have d2:=Xg p
 have r1:(s.ths.map thA)[p]?=some (thR 0 (s.th p)):=by rw [←h];exact Xe hp
 have hL:p<(s.ths.map thA).length:=by rw [List.length_map];exact hp
 by_cases hv:(refV s.c (s.th p) o)=0
 ·by_cases hk1:o.k=1
  ·have v0:((refV s.c (s.th p) o) !=0)=false:=Yb hv
   have hz0:(0:Int)=0:=rfl
   have k1:(o.k==1)=true:=Yk hk1
   have x8:=fun {row:List AV} {x y:R}=>Xn (x:=x) (y:=y) (Uv (j:=p) (x:=row) hL)
   rw [show Y5 s p o=setT s p {({clr (s.th p) with pc:=0,op:=o,res:=⟨0,0⟩}:Th) with pc:=1} from by unfold Y5 V8;rw [if_pos hv];unfold begT;dsimp only;rw [if_pos hk1],if_pos hv]
   have st1:=r1
   have fq1:=fun {n:Nat}=>W5 (n:=n) hr
   have fq2:=fun {n:Nat}=>Xr (n:=n) hr hi
   have fq3:=@Xk
   have fq4:=@Yn
   have fq5:=fun {n:Nat}=>Wf (n:=n) hs hr hi hp
   have fq6:=fun {n:Nat}=>Wg (n:=n) hs hr hi hp ho
   refine goD ?_
   clear fq1 fq2 fq3 fq4 fq5 fq6
   refine okS2 ?_
   simp only [staA,thsA,Xl,Yu,setT,clr,List.map_set,thA,hv]
   try rfl
  ·by_cases hk2:o.k=2
   ·have v0:((refV s.c (s.th p) o) !=0)=false:=Yb hv
    have hz0:(0:Int)=0:=rfl
    have k1:(o.k==1)=false:=Xt (by omega)
    have k2:(o.k==2)=true:=Yk hk2
    have x8:=fun {row:List AV} {x y:R}=>Xn (x:=x) (y:=y) (Uv (j:=p) (x:=row) hL)
    rw [show Y5 s p o=setT s p {({clr (s.th p) with pc:=0,op:=o,res:=⟨0,0⟩}:Th) with pc:=10} from by unfold Y5 V8;rw [if_pos hv];unfold begT;dsimp only;rw [if_neg (show ¬o.k=1 by omega),if_pos hk2],if_pos hv]
    have st1:=r1
    have fq1:=fun {n:Nat}=>W5 (n:=n) hr
    have fq2:=fun {n:Nat}=>Xr (n:=n) hr hi
    have fq3:=@Xk
    have fq4:=@Yn
    have fq5:=fun {n:Nat}=>Wf (n:=n) hs hr hi hp
    have fq6:=fun {n:Nat}=>Wg (n:=n) hs hr hi hp ho
    refine goD ?_
    clear fq1 fq2 fq3 fq4 fq5 fq6
    refine okS2 ?_
    simp only [staA,thsA,Xl,Yu,setT,clr,List.map_set,thA,hv]
    try rfl
   ·by_cases hk4:o.k=4
    ·have v0:((refV s.c (s.th p) o) !=0)=false:=Yb hv
     have hz0:(0:Int)=0:=rfl
     have k1:(o.k==1)=false:=Xt (by omega)
     have k2:(o.k==2)=false:=Xt (by omega)
     have k4:(o.k==4)=true:=Yk hk4
     have x8:=fun {row:List AV} {x y:R}=>Xn (x:=x) (y:=y) (Uv (j:=p) (x:=row) hL)
     rw [show Y5 s p o=setT s p {({clr (s.th p) with pc:=0,op:=o,res:=⟨0,0⟩}:Th) with pc:=80} from by unfold Y5 V8;rw [if_pos hv];unfold begT;dsimp only;rw [if_neg (show ¬o.k=1 by omega),if_neg (show ¬o.k=2 by omega),if_pos hk4],if_pos hv]
     have st1:=r1
     have fq1:=fun {n:Nat}=>W5 (n:=n) hr
     have fq2:=fun {n:Nat}=>Xr (n:=n) hr hi
     have fq3:=@Xk
     have fq4:=@Yn
     have fq5:=fun {n:Nat}=>Wf (n:=n) hs hr hi hp
     have fq6:=fun {n:Nat}=>Wg (n:=n) hs hr hi hp ho
     refine goD ?_
     clear fq1 fq2 fq3 fq4 fq5 fq6
     refine okS2 ?_
     simp only [staA,thsA,Xl,Yu,setT,clr,List.map_set,thA,hv]
     try rfl
    ·by_cases hk5:o.k=5
     ·have v0:((refV s.c (s.th p) o) !=0)=false:=Yb hv
      have hz0:(0:Int)=0:=rfl
      have k1:(o.k==1)=false:=Xt (by omega)
      have k2:(o.k==2)=false:=Xt (by omega)
      have k4:(o.k==4)=false:=Xt (by omega)
      have k5:(o.k==5)=true:=Yk hk5
      have x8:=fun {row:List AV} {x y:R}=>Xn (x:=x) (y:=y) (Uv (j:=p) (x:=row) hL)
      rw [show Y5 s p o=setT s p {({clr (s.th p) with pc:=0,op:=o,res:=⟨0,0⟩}:Th) with pc:=50} from by unfold Y5 V8;rw [if_pos hv];unfold begT;dsimp only;rw [if_neg (show ¬o.k=1 by omega),if_neg (show ¬o.k=2 by omega),if_neg (show ¬o.k=4 by omega),if_pos hk5],if_pos hv]
      have st1:=r1
      have fq1:=fun {n:Nat}=>W5 (n:=n) hr
      have fq2:=fun {n:Nat}=>Xr (n:=n) hr hi
      have fq3:=@Xk
      have fq4:=@Yn
      have fq5:=fun {n:Nat}=>Wf (n:=n) hs hr hi hp
      have fq6:=fun {n:Nat}=>Wg (n:=n) hs hr hi hp ho
      refine goD ?_
      clear fq1 fq2 fq3 fq4 fq5 fq6
      refine okS2 ?_
      simp only [staA,thsA,Xl,Yu,setT,clr,List.map_set,thA,hv]
      try rfl
     ·have hk3:o.k=3:=by have:=Xpe ho;omega
      by_cases hf:(s.th p).free.length=0
      ·have v0:((refV s.c (s.th p) o) !=0)=false:=Yb hv
       have k1:(o.k==1)=false:=Xt (by omega)
       have k2:(o.k==2)=false:=Xt (by omega)
       have k4:(o.k==4)=false:=Xt (by omega)
       have k5:(o.k==5)=false:=Xt (by omega)
       have k3:(o.k==3)=true:=Yk hk3
       have f0:decide (((((s.th p).free.map iA).length:Int))>0)=false:=decide_eq_false (by rw [List.length_map];omega)
       have x8:=fun {row:List AV} {x y:R}=>Xn (x:=x) (y:=y) (Uv (j:=p) (x:=row) hL)
       rw [show Y5 s p o=setT s p {({clr (s.th p) with pc:=0,op:=o,res:=⟨0,0⟩}:Th) with pc:=30} from by unfold Y5 V8;rw [if_pos hv];unfold begT;dsimp only;rw [if_neg (show ¬o.k=1 by omega),if_neg (show ¬o.k=2 by omega),if_neg (show ¬o.k=4 by omega),if_neg (show ¬o.k=5 by omega),if_pos hf],if_pos hv]
       have st1:=r1
       have fq1:=fun {n:Nat}=>W5 (n:=n) hr
       have fq2:=fun {n:Nat}=>Xr (n:=n) hr hi
       have fq3:=@Xk
       have fq4:=@Yn
       have fq5:=fun {n:Nat}=>Wf (n:=n) hs hr hi hp
       have fq6:=fun {n:Nat}=>Wg (n:=n) hs hr hi hp ho
       refine goD ?_
       clear fq1 fq2 fq3 fq4 fq5 fq6
       refine okS2 ?_
       simp only [staA,thsA,Xl,Yu,setT,clr,List.map_set,thA,hv]
       try rfl
      ·have v0:((refV s.c (s.th p) o) !=0)=false:=Yb hv
       have k1:(o.k==1)=false:=Xt (by omega)
       have k2:(o.k==2)=false:=Xt (by omega)
       have k4:(o.k==4)=false:=Xt (by omega)
       have k5:(o.k==5)=false:=Xt (by omega)
       have k3:(o.k==3)=true:=Yk hk3
       have hfl:=hro.2.1
       have hfl2:=T.lf
       have f0:decide (((((s.th p).free.map iA).length:Int))>0)=true:=decide_eq_true (by rw [List.length_map];omega)
       have wl:(IntKind.i64.wrap ((((s.th p).free.map iA).length:Int) - 1))=(((s.th p).free.length - 1:Nat):Int):=by rw [List.length_map,Xc (by omega) (by omega)];omega
       have f1:decide (0≤(IntKind.i64.wrap ((((s.th p).free.map iA).length:Int) - 1)))=true:=by rw [wl];exact decide_eq_true (by omega)
       have f2:decide ((IntKind.i64.wrap ((((s.th p).free.map iA).length:Int) - 1))<(((s.th p).free.map iA).length:Int))=true:=by rw [wl,List.length_map];exact decide_eq_true (by omega)
       have f3:decide ((IntKind.i64.wrap ((((s.th p).free.map iA).length:Int) - 1))≤(((s.th p).free.map iA).length:Int))=true:=by rw [wl,List.length_map];exact decide_eq_true (by omega)
       have r2:((s.th p).free.map iA)[(IntKind.i64.wrap ((((s.th p).free.map iA).length:Int) - 1)).toNat]?=some (iA ((s.th p).free.getD ((s.th p).free.length - 1) default)):=by rw [wl,Int.toNat_natCast];exact Xe (by omega)
       have hxm:((s.th p).free.getD ((s.th p).free.length - 1) default)∈(s.th p).free:=Xi (by omega)
       have hxr:=T.fr _ hxm
       have hgi:((s.th p).free.getD ((s.th p).free.length - 1) default).toNat<s.gens.length:=by omega
       have hgn:=H.gn _ hgi
       have hi62:0≤((s.th p).free.getD ((s.th p).free.length - 1) default)∧((s.th p).free.getD ((s.th p).free.length - 1) default)≤62:=by omega
       have r3:(s.gens.map iA)[((s.th p).free.getD ((s.th p).free.length - 1) default).toNat]?=some (iA (s.gens.getD ((s.th p).free.getD ((s.th p).free.length - 1) default).toNat default)):=Xe hgi
       have g2:decide (0≤((s.th p).free.getD ((s.th p).free.length - 1) default))=true:=decide_eq_true hxr.1
       have g3:decide (((s.th p).free.getD ((s.th p).free.length - 1) default)<((s.gens.map iA).length:Int))=true:=decide_eq_true (by rw [List.length_map];omega)
       have go8:Qt [(0,0+8)] [(0,0+8),((p:Int).toNat,0+15)] (p:Int).toNat (0+15)=true:=by simp [Qt]
       have hT1:List.take ((IntKind.i64.wrap ((((s.th p).free.map iA).length:Int) - 1)).toNat - Int.toNat 0) (List.drop (Int.toNat 0) ((s.th p).free.map iA))=((s.th p).free.take ((s.th p).free.length - 1)).map iA:=by rw [wl,Int.toNat_natCast,List.map_take];rfl
       have hT2:List.take (IntKind.i64.wrap ((((s.th p).free.map iA).length:Int) - 1)).toNat ((s.th p).free.map iA)=((s.th p).free.take ((s.th p).free.length - 1)).map iA:=by rw [wl,Int.toNat_natCast,List.map_take]
       have x8:=fun {row:List AV} {x y:R}=>Xn (x:=x) (y:=y) (Uv (j:=p) (x:=row) hL)
       rw [show Y5 s p o=setT s p {({clr (s.th p) with pc:=0,op:=o,res:=⟨0,0⟩}:Th) with pc:=32,free:=(s.th p).free.take ((s.th p).free.length - 1),node:=mkH ((s.th p).free.getD ((s.th p).free.length - 1) default) (s.gens.getD ((s.th p).free.getD ((s.th p).free.length - 1) default).toNat default)} from by unfold Y5 V8;rw [if_pos hv];unfold begT;dsimp only;rw [if_neg (show ¬o.k=1 by omega),if_neg (show ¬o.k=2 by omega),if_neg (show ¬o.k=4 by omega),if_neg (show ¬o.k=5 by omega),if_neg hf],if_pos hv]
       have st1:=r1
       have fq1:=fun {n:Nat}=>W5 (n:=n) hr
       have fq2:=fun {n:Nat}=>Xr (n:=n) hr hi
       have fq3:=@Xk
       have fq4:=@Yn
       have fq5:=fun {n:Nat}=>Wf (n:=n) hs hr hi hp
       have fq6:=fun {n:Nat}=>Wg (n:=n) hs hr hi hp ho
       have fq7:=fun {n:Nat}=>Xc8 (n:=n) hi62 hgn
       have x1:=fun {x y:R}=>Xn (x:=x) (y:=y) go8
       refine goD ?_
       clear fq1 fq2 fq3 fq4 fq5 fq6 fq7 x1
       refine okS2 ?_
       simp only [staA,thsA,Xl,Yu,setT,clr,List.map_set,thA,hv,hT1,hT2,Zj]
       try rfl
 ·have v0:((refV s.c (s.th p) o) !=0)=true:=Zn hv
  have x8:=fun {row:List AV} {x y:R}=>Xn (x:=x) (y:=y) (Uv (j:=p) (x:=row) hL)
  rw [show Y5 s p o=setT s p {clr (s.th p) with pc:=0,op:=o,res:=⟨(refV s.c (s.th p) o),0⟩} from by unfold Y5 V8;rw [if_neg hv],if_neg hv]
  have st1:=r1
  have fq1:=fun {n:Nat}=>W5 (n:=n) hr
  have fq2:=fun {n:Nat}=>Xr (n:=n) hr hi
  have fq3:=@Xk
  have fq4:=@Yn
  have fq5:=fun {n:Nat}=>Wf (n:=n) hs hr hi hp
  have fq6:=fun {n:Nat}=>Wg (n:=n) hs hr hi hp ho
  refine goD ?_
  clear fq1 fq2 fq3 fq4 fq5 fq6
  refine okS2 ?_
  simp only [staA,thsA,Xl,Yu,setT,clr,List.map_set,thA]
  try rfl
end Go.Proofs.YtbploohjimpcaaaGreat.A
