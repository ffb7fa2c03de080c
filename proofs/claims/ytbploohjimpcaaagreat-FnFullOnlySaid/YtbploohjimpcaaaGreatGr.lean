/- What the program's functions answer (Gr): no condition. -/
import Derived.Test.YtbploohjimpcaaaGreatGq
import Derived.Test.YtbploohjimpcaaaGreatGm
import Derived.Test.YtbploohjimpcaaaGreatLib3
import Derived.Test.YtbploohjimpcaaaGreatGn
set_option linter.unusedVariables false
set_option linter.unusedSimpArgs false
namespace Go.Proofs.YtbploohjimpcaaaGreat.A
open Go Go.Abs
set_option maxRecDepth 100000
theorem Xwc {m:Mac} {p:Nat} {s2:Sta} (hs2:s2=stepV m.s p) (h:¬(m.s.th p).pc=0) (h2:¬(s2.th p).pc=0):Um m p=⟨s2,m.progs,m.next,m.evs,m.time+1⟩:=by
 subst hs2;unfold Um;rw [if_pos h,if_neg h2]
theorem Xwd {m:Mac} {p:Nat} {s2:Sta} (hs2:s2=stepV m.s p) (h:¬(m.s.th p).pc=0) (h2:(s2.th p).pc=0):Um m p=⟨s2,m.progs,m.next,Zk m.evs p m.time (s2.th p).res m.evs.length,m.time+1⟩:=by
 subst hs2;unfold Um;rw [if_pos h,if_pos h2];rfl
theorem Xwe {m:Mac} {p:Nat} {s2:Sta} (hs2:s2=Y5 m.s p (opAt m p)) (h:(m.s.th p).pc=0) (h2:refV m.s.c (m.s.th p) (opAt m p)=0):Um m p=⟨s2,m.progs,m.next.set p (m.next.getD p default+1),m.evs++[⟨p,opAt m p,⟨0,0⟩,m.time,-1⟩],m.time+1⟩:=by
 subst hs2;unfold Um;rw [if_neg (fun e=>e h),if_pos h2]
theorem Xwf {m:Mac} {p:Nat} {s2:Sta} (hs2:s2=Y5 m.s p (opAt m p)) (h:(m.s.th p).pc=0) (h2:¬refV m.s.c (m.s.th p) (opAt m p)=0):Um m p=⟨s2,m.progs,m.next.set p (m.next.getD p default+1),Zk (m.evs++[⟨p,opAt m p,⟨0,0⟩,m.time,-1⟩]) p m.time ⟨refV m.s.c (m.s.th p) (opAt m p),0⟩ (m.evs++[(⟨p,opAt m p,⟨0,0⟩,m.time,-1⟩:Ev)]).length,m.time+1⟩:=by
 subst hs2;unfold Um;rw [if_neg (fun e=>e h),if_neg h2];rfl
theorem Xne {s:Sta} {p:Nat} {o:Op3} (hp:p<s.ths.length):((Y5 s p o).th p).res=(⟨refV s.c (s.th p) o,0⟩:Rs):=by
 unfold Y5
 rw [Xuh hp,if_pos rfl]
 unfold V8
 split
 ·rename_i h
  unfold begT
  dsimp only
  rw [h]
  split
  ·rfl
  ·split
   ·rfl
   ·split
    ·rfl
    ·split
     ·rfl
     ·split <;> rfl
 ·rfl
theorem Xnf {s:Sta} {p:Nat} {o:Op3}:(Y5 s p o).ths.length=s.ths.length:=by unfold Y5 setT;simp
theorem MI.ns {m:Mac} (M:MI m) {p:Nat}:cntE p m.evs≤100:=by have:=Xv8 (p:=(p:Int)) (evs:=m.evs);have:=M.el;omega
theorem Xlp {l:List (List AV)} {a:Int} {j:Nat} {x:List AV} (h:decide (a<(l.length:Int))=true):decide (a<((l.set j x).length:Int))=true:=by rw [List.length_set];exact h
theorem Xwg {l:List Ev} {e:Ev}:(l++[e]).map evA=l.map evA++[evA e]:=by rw [List.map_append];rfl
theorem okM {a b:List AV} (h:a=b):some (⟨.agg a,[]⟩:Res)=some ⟨.agg b,[]⟩:=by rw [h]
theorem Xey {n:Nat} {m:Mac} {p:Nat} {s2:Sta} (M:MI m) (hp:p<m.s.ths.length) (hz:¬(m.s.th p).pc=0) (hs2:s2=stepV m.s p):callP cfg (n+48) 166 [.agg (staA m.s),.int .i64 (p:Int)]=some ⟨.tup [.agg (staA s2),.bool true],[]⟩:=by
 have h:=Xsz (n:=n+0) M.sta M.room M.i64 hp (M.si.tv p hp).2.s6 (fun h=>(M.si.tv p hp).2.w1 h)
 rw [if_neg hz,show runB m.s p=true from decide_eq_true hz,←hs2] at h
 exact h
set_option maxHeartbeats 16000000 in
theorem X5q {n:Nat} {m:Mac} {p:Nat} (M:MI m) (hp:p<m.s.ths.length) (hc:canV m p=true) (h:¬(m.s.th p).pc=0):callP cfg (n+58) 107 [.agg (macA m),.int .i64 (p:Int)]=some ⟨.agg (macA (Um m p)),[]⟩:=by
 rw [Xa]
 have hr:=M.room
 have hi:=M.i64
 have hs:=M.sta
 have hpn:=M.pn
 have hnl:=M.nl
 have htm:=M.tm
 have hel:=M.el
 have hmr:=M.mroom
 have d1:=Xf (f:=thA) hp
 have d2:=Xg p
 have r1:=Xe (f:=thA) hp
 have hW:=M.si.tv p hp
 have w1:IntKind.i64.wrap (m.time+1)=m.time+1:=Xc (by omega) (by omega)
 obtain ⟨s2,hs2⟩:∃ s2,s2=stepV m.s p:=⟨_,rfl⟩
 have hl2:p<s2.ths.length:=by rw [hs2,(Xct M.si hp M.ns h).len.1];exact hp
 have d3:=Xf (f:=thA) hl2
 have r6:=Xe (f:=thA) hl2
 have b0:((m.s.th p).pc !=0)=true:=Zn h
 by_cases h2:(s2.th p).pc=0
 ·have b2:((s2.th p).pc==0)=true:=Yk h2
  rw [Xwd hs2 h h2]
  have fq1:=fun {n:Nat}=>Z1 (n:=n) hmr
  have fq2:=fun {n:Nat}=>Xey (n:=n) M hp h hs2
  refine goD ?_
  clear fq1 fq2
  have hwl:IntKind.i64.wrap (((m.evs.map evA).length:Int) - 1)=((m.evs.length:Nat):Int) - 1:=by rw [List.length_map];exact Xc (by omega) (by omega)
  refine (X9 (fun e (j:Nat)=>e.set 4 (.int .i64 ((j:Int) - 1))) (fun h _=>h) (fun j=>some ⟨.agg (macA ⟨s2,m.progs,m.next,Zk m.evs p m.time (s2.th p).res j,m.time+1⟩),[]⟩) (fun j=>j≤m.evs.length) (fun j=>j) m.evs.length (by rw [←hwl];rfl) (Nat.le_refl _) (by show _<18446744073709551616;omega) ?_).trans rfl
  intro j f hj IH
  rcases j with _ | j
  ·have z1:decide (((0:Nat):Int) - 1≥0)=false:=rfl
   refine goD ?_
   refine okM ?_
   unfold Zk
   simp only [macA,thsA,Xl,Yt,evsA,List.map_set,List.map_append,List.map_cons,List.map_nil,Zj,w1]
   try rfl
  ·have q1:decide (((j+1:Nat):Int) - 1≥0)=true:=decide_eq_true (by omega)
   have q2:decide (0≤((j+1:Nat):Int) - 1)=true:=decide_eq_true (by omega)
   have q3:decide (((j+1:Nat):Int) - 1<((m.evs.map evA).length:Int))=true:=decide_eq_true (by rw [List.length_map];omega)
   have hti:(((j+1:Nat):Int) - 1).toNat=j:=by omega
   have r2:(m.evs.map evA)[(((j+1:Nat):Int) - 1).toNat]?=some (evA (m.evs.getD j default)):=by rw [hti];exact Xe hj
   have st1:=r2
   have hL:(((j+1:Nat):Int) - 1).toNat<(m.evs.map evA).length:=by rw [hti,List.length_map];exact hj
   have x8:=fun {row:List AV} {x y:R}=>Xn (x:=x) (y:=y) (Xlp (j:=(((j+1:Nat):Int) - 1).toNat) (x:=row) q3)
   have hwj:IntKind.i64.wrap (((j+1:Nat):Int) - 1 - 1)=(j:Int) - 1:=by rw [Xc (by omega) (by omega)];omega
   by_cases he:(m.evs.getD j default).th=(p:Int)
   ·have b1:((m.evs.getD j default).th==(p:Int))=true:=Yk he
    rw [show Zk m.evs p m.time (s2.th p).res (j+1)=m.evs.set j {m.evs.getD j default with en:=m.time,res:=(s2.th p).res} from if_pos he]
    refine goD ?_
    refine okM ?_
    simp only [macA,thsA,Xl,Yt,evsA,List.map_set,List.map_append,List.map_cons,List.map_nil,Zj,w1,hti]
    try rfl
   ·have b1:((m.evs.getD j default).th==(p:Int))=false:=Xt he
    rw [show Zk m.evs p m.time (s2.th p).res (j+1)=Zk m.evs p m.time (s2.th p).res j from if_neg he]
    refine goD ?_
    exact IH j _ _ (by omega) (by omega) (by rw [hwj];rfl) rfl
 ·have b2:((s2.th p).pc==0)=false:=Xt h2
  rw [Xwc hs2 h h2]
  have fq1:=fun {n:Nat}=>Z1 (n:=n) hmr
  have fq2:=fun {n:Nat}=>Xey (n:=n) M hp h hs2
  refine goD ?_
  clear fq1 fq2
  refine okM ?_
  simp only [macA,thsA,Xl,Yt,evsA,List.map_set,List.map_append,List.map_cons,List.map_nil,Zj,w1]
  try rfl
set_option maxHeartbeats 16000000 in
theorem X5r {n:Nat} {m:Mac} {p:Nat} (M:MI m) (hp:p<m.s.ths.length) (hc:canV m p=true) (h:(m.s.th p).pc=0):callP cfg (n+58) 107 [.agg (macA m),.int .i64 (p:Int)]=some ⟨.agg (macA (Um m p)),[]⟩:=by
 rw [Xa]
 have hr:=M.room
 have hi:=M.i64
 have hs:=M.sta
 have hpn:=M.pn
 have hnl:=M.nl
 have htm:=M.tm
 have hel:=M.el
 have hmr:=M.mroom
 have d1:=Xf (f:=thA) hp
 have d2:=Xg p
 have r1:=Xe (f:=thA) hp
 have hW:=M.si.tv p hp
 have w1:IntKind.i64.wrap (m.time+1)=m.time+1:=Xc (by omega) (by omega)
 unfold canV at hc
 rw [show decide ((m.s.th p).pc≠0)=false from decide_eq_false (by simpa using h),Bool.false_or] at hc
 simp only [Bool.and_eq_true,decide_eq_true_eq] at hc
 obtain ⟨hc1,hc2,hc3⟩:=hc
 have hnp:p<m.next.length:=by omega
 have hpp:p<m.progs.length:=by omega
 have hnx:=M.nx p hnp
 have hpl:=M.pr _ (Xi (xs:=m.progs) hpp)
 have hol:(m.next.getD p default).toNat<(m.progs.getD p default).length:=by omega
 have ho:Vx (opAt m p)=true:=Xwb hpl _ (Xi hol)
 obtain ⟨s2,hs2⟩:∃ s2,s2=Y5 m.s p (opAt m p):=⟨_,rfl⟩
 have hl2:p<s2.ths.length:=by rw [hs2,Xnf];exact hp
 have hre:(s2.th p).res=(⟨refV m.s.c (m.s.th p) (opAt m p),0⟩:Rs):=by rw [hs2];exact Xne hp
 have d3:=Xf (f:=thA) hl2
 have r6:=Xe (f:=thA) hl2
 have b0:((m.s.th p).pc !=0)=false:=Yb h
 have d4:decide ((p:Int)<((m.next.map iA).length:Int))=true:=Xf hnp
 have r3:(m.next.map iA)[p]?=some (iA (m.next.getD p default)):=Xe hnp
 have st1:=r3
 have d5:decide ((p:Int)<((m.progs.map Xp).length:Int))=true:=Xf hpp
 have r4:(m.progs.map Xp)[p]?=some (Xp (m.progs.getD p default)):=Xe hpp
 have d6:decide (0≤m.next.getD p default)=true:=decide_eq_true hnx.1
 have d7:decide (m.next.getD p default<(((m.progs.getD p default).map opA).length:Int))=true:=decide_eq_true (by rw [List.length_map];exact hc2)
 have r5:((m.progs.getD p default).map opA)[(m.next.getD p default).toNat]?=some (opA (opAt m p)):=Xe hol
 have hpl2:=Xnb hpl
 have w2:IntKind.i64.wrap (m.next.getD p default+1)=m.next.getD p default+1:=Xc (by omega) (by omega)
 have e3:decide (((m.evs.map evA).length+1)*64≤Yf)=true:=decide_eq_true (by rw [List.length_map];show _≤140737488355328;omega)
 by_cases h2:refV m.s.c (m.s.th p) (opAt m p)=0
 ·rw [Xwe hs2 h h2]
  have hso:=fun {n:Nat}=>Xf4 (n:=n) hs hr hi hp ho h
  rw [←hs2,if_pos h2] at hso
  have fq2:=@hso
  have fq1:=fun {n:Nat}=>Z1 (n:=n) hmr
  have x1:=fun {x y:R}=>Xn (x:=x) (y:=y) e3
  refine goD ?_
  clear fq1 x1
  refine okM ?_
  simp only [macA,thsA,Xl,Yt,evsA,List.map_set,List.map_append,List.map_cons,List.map_nil,Zj,w1,w2]
  try rfl
 ·rw [Xwf hs2 h h2,←hre]
  have hel2:(m.evs++[(⟨p,opAt m p,⟨0,0⟩,m.time,-1⟩:Ev)]).length≤80:=by rw [List.length_append];simp only [List.length_cons,List.length_nil];omega
  have hso:=fun {n:Nat}=>Xf4 (n:=n) hs hr hi hp ho h
  rw [←hs2,if_neg h2] at hso
  have fq2:=@hso
  have fq1:=fun {n:Nat}=>Z1 (n:=n) hmr
  have x1:=fun {x y:R}=>Xn (x:=x) (y:=y) e3
  refine goD ?_
  clear fq1 x1
  have hwl:IntKind.i64.wrap ((((m.evs++[(⟨p,opAt m p,⟨0,0⟩,m.time,-1⟩:Ev)]).map evA).length:Int) - 1)=(((m.evs++[(⟨p,opAt m p,⟨0,0⟩,m.time,-1⟩:Ev)]).length:Nat):Int) - 1:=by rw [List.length_map];exact Xc (by omega) (by omega)
  refine (X9 (fun e (j:Nat)=>e.set 4 (.int .i64 ((j:Int) - 1))) (fun h _=>h.set 4 (some ⟨false,false,true,17,[[.int .i64 s2.c.th,.int .i64 s2.c.keys,.int .i64 s2.c.cap,.int .i64 s2.c.b,.int .i64 s2.c.p,.int .i64 s2.c.cm,Xl s2.cells,Xl s2.gens,thsA s2.ths,.int .i64 s2.steps,.int .i64 s2.changes,.int .i64 s2.retries,.int .i64 s2.faults,Yt m.progs,.lst 1 ((m.next.map iA).set p [.int .i64 (IntKind.i64.wrap (m.next.getD p default+1))]),.lst 8 ((m.evs++[(⟨p,opAt m p,⟨0,0⟩,m.time,-1⟩:Ev)]).map evA),.int .i64 m.time]]⟩)) (fun j=>some ⟨.agg (macA ⟨s2,m.progs,(m.next.set p (m.next.getD p default+1)),Zk (m.evs++[(⟨p,opAt m p,⟨0,0⟩,m.time,-1⟩:Ev)]) p m.time (s2.th p).res j,m.time+1⟩),[]⟩) (fun j=>j≤(m.evs++[(⟨p,opAt m p,⟨0,0⟩,m.time,-1⟩:Ev)]).length) (fun j=>j) (m.evs++[(⟨p,opAt m p,⟨0,0⟩,m.time,-1⟩:Ev)]).length (by rw [←hwl,Xwg];rfl) (Nat.le_refl _) (by show _<18446744073709551616;omega) ?_).trans rfl
  intro j f hj IH
  rcases j with _ | j
  ·have z1:decide (((0:Nat):Int) - 1≥0)=false:=rfl
   refine goD ?_
   refine okM ?_
   unfold Zk
   simp only [macA,thsA,Xl,Yt,evsA,List.map_set,List.map_append,List.map_cons,List.map_nil,Zj,w1,w2]
   try rfl
  ·have q1:decide (((j+1:Nat):Int) - 1≥0)=true:=decide_eq_true (by omega)
   have q2:decide (0≤((j+1:Nat):Int) - 1)=true:=decide_eq_true (by omega)
   have q3:decide (((j+1:Nat):Int) - 1<(((m.evs++[(⟨p,opAt m p,⟨0,0⟩,m.time,-1⟩:Ev)]).map evA).length:Int))=true:=decide_eq_true (by rw [List.length_map];omega)
   have hti:(((j+1:Nat):Int) - 1).toNat=j:=by omega
   have r2:((m.evs++[(⟨p,opAt m p,⟨0,0⟩,m.time,-1⟩:Ev)]).map evA)[(((j+1:Nat):Int) - 1).toNat]?=some (evA ((m.evs++[(⟨p,opAt m p,⟨0,0⟩,m.time,-1⟩:Ev)]).getD j default)):=by rw [hti];exact Xe hj
   have st1:=r2
   have hL:(((j+1:Nat):Int) - 1).toNat<((m.evs++[(⟨p,opAt m p,⟨0,0⟩,m.time,-1⟩:Ev)]).map evA).length:=by rw [hti,List.length_map];exact hj
   have x8:=fun {row:List AV} {x y:R}=>Xn (x:=x) (y:=y) (Xlp (j:=(((j+1:Nat):Int) - 1).toNat) (x:=row) q3)
   have hwj:IntKind.i64.wrap (((j+1:Nat):Int) - 1 - 1)=(j:Int) - 1:=by rw [Xc (by omega) (by omega)];omega
   by_cases he:((m.evs++[(⟨p,opAt m p,⟨0,0⟩,m.time,-1⟩:Ev)]).getD j default).th=(p:Int)
   ·have b1:(((m.evs++[(⟨p,opAt m p,⟨0,0⟩,m.time,-1⟩:Ev)]).getD j default).th==(p:Int))=true:=Yk he
    rw [show Zk (m.evs++[(⟨p,opAt m p,⟨0,0⟩,m.time,-1⟩:Ev)]) p m.time (s2.th p).res (j+1)=(m.evs++[(⟨p,opAt m p,⟨0,0⟩,m.time,-1⟩:Ev)]).set j {(m.evs++[(⟨p,opAt m p,⟨0,0⟩,m.time,-1⟩:Ev)]).getD j default with en:=m.time,res:=(s2.th p).res} from if_pos he]
    refine goD ?_
    refine okM ?_
    simp only [macA,thsA,Xl,Yt,evsA,List.map_set,List.map_append,List.map_cons,List.map_nil,Zj,w1,w2,hti]
    try rfl
   ·have b1:(((m.evs++[(⟨p,opAt m p,⟨0,0⟩,m.time,-1⟩:Ev)]).getD j default).th==(p:Int))=false:=Xt he
    rw [show Zk (m.evs++[(⟨p,opAt m p,⟨0,0⟩,m.time,-1⟩:Ev)]) p m.time (s2.th p).res (j+1)=Zk (m.evs++[(⟨p,opAt m p,⟨0,0⟩,m.time,-1⟩:Ev)]) p m.time (s2.th p).res j from if_neg he]
    refine goD ?_
    exact IH j _ _ (by omega) (by omega) (by rw [hwj];rfl) rfl
theorem Xs0 {n:Nat} {m:Mac} {p:Nat} (M:MI m) (hp:p<m.s.ths.length) (hc:canV m p=true):callP cfg (n+58) 107 [.agg (macA m),.int .i64 (p:Int)]=some ⟨.agg (macA (Um m p)),[]⟩:=by
 by_cases h:(m.s.th p).pc=0
 ·exact X5r M hp hc h
 ·exact X5q M hp hc h
theorem Xf5 {n:Nat} {m:Mac} {p:Nat} {pk:Int} (M:MI m) (hp:p<m.s.ths.length) (h0:0≤pk∧pk≤9000) (hpk:pk % (m.progs.length:Int)=(p:Int)):callP cfg (n+60) 50 [.agg (macA m),.int .i64 pk]=some ⟨.tup [.agg (macA (if canV m p=true then Um m p else m)),.bool (canV m p)],[]⟩:=by
 rw [Xa]
 have hpn:=M.pn
 have hmr:=M.mroom
 have h1:1≤m.progs.length∧m.progs.length≤4:=by omega
 have hto:=fun {n:Nat}=>Xk3 (n:=n) h0 h1
 rw [hpk] at hto
 have fq12:=@hto
 by_cases hc:canV m p=true
 ·rw [if_pos hc,hc]
  have hca:=fun {n:Nat}=>Xnd (n:=n) M hp
  rw [hc] at hca
  have fq11:=@hca
  have fq1:=fun {n:Nat}=>W9 (n:=n) M
  have fq2:=fun {n:Nat}=>Xs0 (n:=n) M hp hc
  refine goD ?_
  clear fq1 fq2
  try with_reducible rfl
 ·replace hc:canV m p=false:=by simpa using hc
  rw [if_neg (by rw [hc];simp),hc]
  have hca:=fun {n:Nat}=>Xnd (n:=n) M hp
  rw [hc] at hca
  have fq11:=@hca
  have fq1:=fun {n:Nat}=>W9 (n:=n) M
  have fq2:=fun {n:Nat}=>Z1 (n:=n) hmr
  refine goD ?_
  clear fq1 fq2
  try with_reducible rfl
theorem Xk4 {n:Nat} {c:Cf} (hc:Yp c=true):callP cfg (n+4) 208 [.agg (cfA c)]=some ⟨Xl (Za c).cells,[]⟩:=by
 rw [Xa]
 have hb:=Xm hc
 have hcc:=Xig hc
 have e0:decide (0≤ccB c)=true:=decide_eq_true (by omega)
 have e1:decide (ccB c≤ccB c)=true:=decide_eq_true (Int.le_refl _)
 have e2:decide ((ccB c).toNat*ty3.bytes≤Yf)=true:=decide_eq_true (by show _*8≤140737488355328;omega)
 have e3:decide ((0:Int)<((List.replicate (ccB c).toNat ty3.zero).length:Int))=true:=decide_eq_true (by rw [List.length_replicate];omega)
 have r1:(List.replicate (ccB c).toNat ty3.zero)[0]?=some [.int .i64 0]:=by rw [List.getElem?_replicate,if_pos (by omega)];rfl
 have st1:=r1
 have fq1:=@Xx
 have fq2:=@Yy
 have fq3:=@Zo
 have x1:=fun {x y:R}=>Xn (x:=x) (y:=y) e2
 have x2:=fun {x y:R}=>Xn (x:=x) (y:=y) e3
 refine go ?_
 clear fq1 fq2 fq3 x1 x2
 unfold Za
 simp only [Xl,List.map_set,List.map_replicate]
 rfl
set_option maxHeartbeats 4000000 in
theorem Xk5 {n:Nat} {c:Cf} (hc:Yp c=true):callP cfg (n+5) 140 [.agg (cfA c)]=some ⟨.agg (staA (Za c)),[]⟩:=by
 rw [Xa]
 have hb:=Xm hc
 have e0:decide (0≤c.cap)=true:=decide_eq_true (by omega)
 have e1:decide (c.cap≤c.cap)=true:=decide_eq_true (Int.le_refl _)
 have e2:decide (c.cap.toNat*ty3.bytes≤Yf)=true:=decide_eq_true (by show _*8≤140737488355328;omega)
 have e3:decide (0≤c.th)=true:=decide_eq_true (by omega)
 have e4:decide (c.th≤c.th)=true:=decide_eq_true (Int.le_refl _)
 have e5:decide (c.th.toNat*ty81.bytes≤Yf)=true:=decide_eq_true (by show _*232≤140737488355328;omega)
 have fq1:=@Xx
 have fq2:=fun {n:Nat}=>Xk4 (n:=n) hc
 have x1:=fun {x y:R}=>Xn (x:=x) (y:=y) e2
 have x2:=fun {x y:R}=>Xn (x:=x) (y:=y) e5
 refine goD ?_
 clear fq1 fq2 x1 x2
 refine okM ?_
 unfold Za
 simp only [staA,Xl,thsA,List.map_replicate]
 rfl
theorem okMB {a b:List AV} {x:Bool} (h:a=b):some (⟨.tup [.agg a,.bool x],[]⟩:Res)=some ⟨.tup [.agg b,.bool x],[]⟩:=by rw [h]
set_option maxHeartbeats 4000000 in
theorem Xda {n:Nat} {c:Cf} {ps:List (List Op3)} (hc:Vv c ps=true):callP cfg (n+9) 73 [.agg (cfA c),Yt ps]=some ⟨.tup [.agg (macA (Uf c ps)),.bool true],[]⟩:=by
 rw [Xa]
 have hM:=X0o hc
 have hmr:=hM.mroom
 have hx:ps.length≤1048576:=hmr.2.1
 have hxs:∀ l∈ps,l.length≤1048576:=hmr.2.2.1
 have hcf:Yp c=true:=hM.si.cv.cf
 have hb:=Xm hcf
 have e0:decide (0≤c.th)=true:=decide_eq_true (by omega)
 have e1:decide (c.th≤c.th)=true:=decide_eq_true (Int.le_refl _)
 have e2:decide (c.th.toNat*ty3.bytes≤Yf)=true:=decide_eq_true (by show _*8≤140737488355328;omega)
 have fq1:=fun {n:Nat} {c:Cf}=>Vd (n:=n) (c:=c) hx hxs
 have fq2:=fun {n:Nat}=>Xk5 (n:=n) hcf
 have fq3:=fun {n:Nat}=>U8 (n:=n) hx hxs
 have x1:=fun {x y:R}=>Xn (x:=x) (y:=y) e2
 refine goD ?_
 clear fq1 fq2 fq3 x1
 refine okMB ?_
 unfold Uf
 simp only [macA,Xl,evsA,List.map_replicate]
 rfl
end Go.Proofs.YtbploohjimpcaaaGreat.A
