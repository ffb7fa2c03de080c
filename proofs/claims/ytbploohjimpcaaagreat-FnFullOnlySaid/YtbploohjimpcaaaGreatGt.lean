/- What the program's functions answer (Gt): no condition. -/
import Derived.Test.YtbploohjimpcaaaGreatGp
import Derived.Test.YtbploohjimpcaaaGreatGr
import Derived.Test.YtbploohjimpcaaaGreatLib3
import Derived.Test.YtbploohjimpcaaaGreatGn
set_option linter.unusedVariables false
set_option linter.unusedSimpArgs false
namespace Go.Proofs.YtbploohjimpcaaaGreat.A
open Go Go.Abs
set_option maxRecDepth 100000
theorem okPk {a b:List AV} {x:Bool} (h:a=b):some (⟨.bool x,a⟩:Res)=some ⟨.bool x,b⟩:=by rw [h]
set_option maxHeartbeats 16000000 in
theorem X26 {n:Nat} {m:Mac} {p:Nat} (M:MI m) (hp:p<m.s.ths.length) (h:¬(m.s.th p).pc=0):callP cfg (n+67) 89 [.pv (macA m),.int .i64 (p:Int)]=some ⟨.bool true,macA (Um m p)⟩:=by
 rw [Xa]
 have hr:=M.room
 have hi:=M.i64
 have hs:=M.sta
 have hpn:=M.pn
 have hnl:=M.nl
 have htm:=M.tm
 have hel:=M.el
 have hmr:=M.mroom
 have d1:=Xf (f:=thA) hp
 have d2:=Xg p
 have r1:=Xe (f:=thA) hp
 have hW:=M.si.tv p hp
 have w1:IntKind.i64.wrap (m.time+1)=m.time+1:=Xc (by omega) (by omega)
 obtain ⟨s2,hs2⟩:∃ s2,s2=stepV m.s p:=⟨_,rfl⟩
 have hl2:p<s2.ths.length:=by rw [hs2,(Xct M.si hp M.ns h).len.1];exact hp
 have d3:=Xf (f:=thA) hl2
 have r6:=Xe (f:=thA) hl2
 have b0:((m.s.th p).pc !=0)=true:=Zn h
 by_cases h2:(s2.th p).pc=0
 ·have b2:((s2.th p).pc==0)=true:=Yk h2
  rw [Xwd hs2 h h2]
  have fq1:=fun {n:Nat}=>Xpj (n:=n) M hp h hs2
  refine goD ?_
  clear fq1
  have hwl:IntKind.i64.wrap (((m.evs.map evA).length:Int) - 1)=((m.evs.length:Nat):Int) - 1:=by rw [List.length_map];exact Xc (by omega) (by omega)
  refine (X9 (fun e (j:Nat)=>e.set 4 (.int .i64 ((j:Int) - 1))) (fun h _=>h) (fun j=>some ⟨.bool true,macA ⟨s2,m.progs,m.next,Zk m.evs p m.time (s2.th p).res j,m.time+1⟩⟩) (fun j=>j≤m.evs.length) (fun j=>j) m.evs.length (by rw [←hwl];rfl) (Nat.le_refl _) (by show _<18446744073709551616;omega) ?_).trans rfl
  intro j f hj IH
  rcases j with _ | j
  ·have z1:decide (((0:Nat):Int) - 1≥0)=false:=rfl
   refine goD ?_
   refine okPk ?_
   unfold Zk
   simp only [macA,thsA,Xl,Yt,evsA,List.map_set,List.map_append,List.map_cons,List.map_nil,Zj,w1]
   try rfl
  ·have q1:decide (((j+1:Nat):Int) - 1≥0)=true:=decide_eq_true (by omega)
   have q2:decide (0≤((j+1:Nat):Int) - 1)=true:=decide_eq_true (by omega)
   have q3:decide (((j+1:Nat):Int) - 1<((m.evs.map evA).length:Int))=true:=decide_eq_true (by rw [List.length_map];omega)
   have hti:(((j+1:Nat):Int) - 1).toNat=j:=by omega
   have r2:(m.evs.map evA)[(((j+1:Nat):Int) - 1).toNat]?=some (evA (m.evs.getD j default)):=by rw [hti];exact Xe hj
   have st1:=r2
   have hL:(((j+1:Nat):Int) - 1).toNat<(m.evs.map evA).length:=by rw [hti,List.length_map];exact hj
   have x8:=fun {row:List AV} {x y:R}=>Xn (x:=x) (y:=y) (Xlp (j:=(((j+1:Nat):Int) - 1).toNat) (x:=row) q3)
   have hwj:IntKind.i64.wrap (((j+1:Nat):Int) - 1 - 1)=(j:Int) - 1:=by rw [Xc (by omega) (by omega)];omega
   by_cases he:(m.evs.getD j default).th=(p:Int)
   ·have b1:((m.evs.getD j default).th==(p:Int))=true:=Yk he
    rw [show Zk m.evs p m.time (s2.th p).res (j+1)=m.evs.set j {m.evs.getD j default with en:=m.time,res:=(s2.th p).res} from if_pos he]
    refine goD ?_
    refine okPk ?_
    simp only [macA,thsA,Xl,Yt,evsA,List.map_set,List.map_append,List.map_cons,List.map_nil,Zj,w1,hti]
    try rfl
   ·have b1:((m.evs.getD j default).th==(p:Int))=false:=Xt he
    rw [show Zk m.evs p m.time (s2.th p).res (j+1)=Zk m.evs p m.time (s2.th p).res j from if_neg he]
    refine goD ?_
    exact IH j _ _ (by omega) (by omega) (by rw [hwj];rfl) rfl
 ·have b2:((s2.th p).pc==0)=false:=Xt h2
  rw [Xwc hs2 h h2]
  have fq1:=fun {n:Nat}=>Xpj (n:=n) M hp h hs2
  refine goD ?_
  clear fq1
  refine okPk ?_
  simp only [macA,thsA,Xl,Yt,evsA,List.map_set,List.map_append,List.map_cons,List.map_nil,Zj,w1]
  try rfl
set_option maxHeartbeats 16000000 in
theorem X0w {n:Nat} {m:Mac} {p:Nat} (M:MI m) (hp:p<m.s.ths.length) (hc:canV m p=false) (ht:m.time<1000000) (h:(m.s.th p).pc=0):callP cfg (n+67) 89 [.pv (macA m),.int .i64 (p:Int)]=some ⟨.bool false,macA m⟩:=by
 rw [Xa]
 have hr:=M.room
 have hi:=M.i64
 have hs:=M.sta
 have hpn:=M.pn
 have hnl:=M.nl
 have htm:=M.tm
 have hel:=M.el
 have hmr:=M.mroom
 have d1:=Xf (f:=thA) hp
 have d2:=Xg p
 have r1:=Xe (f:=thA) hp
 have hW:=M.si.tv p hp
 have w1:IntKind.i64.wrap (m.time+1)=m.time+1:=Xc (by omega) (by omega)
 have hnp:p<m.next.length:=by omega
 have hpp:p<m.progs.length:=by omega
 have hnx:=M.nx p hnp
 have hpl:=M.pr _ (Xi (xs:=m.progs) hpp)
 have b0:((m.s.th p).pc !=0)=false:=Yb h
 have d4:decide ((p:Int)<((m.next.map iA).length:Int))=true:=Xf hnp
 have r3:(m.next.map iA)[p]?=some (iA (m.next.getD p default)):=Xe hnp
 have d5:decide ((p:Int)<((m.progs.map Xp).length:Int))=true:=Xf hpp
 have r4:(m.progs.map Xp)[p]?=some (Xp (m.progs.getD p default)):=Xe hpp
 unfold canV at hc
 rw [show decide ((m.s.th p).pc≠0)=false from decide_eq_false (by simpa using h),Bool.false_or,decide_eq_true ht,Bool.true_and] at hc
 by_cases h3:m.next.getD p default<((m.progs.getD p default).length:Int)
 ·have b3:decide (m.next.getD p default≥(((m.progs.getD p default).map opA).length:Int))=false:=decide_eq_false (by rw [List.length_map];omega)
  rw [decide_eq_true h3,Bool.true_and] at hc
  have hc3:=of_decide_eq_false hc
  have b4:decide (((m.evs.map evA).length:Int)≥80)=true:=decide_eq_true (by rw [List.length_map];omega)
  refine goD ?_
  try with_reducible rfl
 ·have b3:decide (m.next.getD p default≥(((m.progs.getD p default).map opA).length:Int))=true:=decide_eq_true (by rw [List.length_map];omega)
  refine goD ?_
  try with_reducible rfl
set_option maxHeartbeats 16000000 in
theorem X27 {n:Nat} {m:Mac} {p:Nat} (M:MI m) (hp:p<m.s.ths.length) (hc:canV m p=true) (h:(m.s.th p).pc=0):callP cfg (n+67) 89 [.pv (macA m),.int .i64 (p:Int)]=some ⟨.bool true,macA (Um m p)⟩:=by
 rw [Xa]
 have hr:=M.room
 have hi:=M.i64
 have hs:=M.sta
 have hpn:=M.pn
 have hnl:=M.nl
 have htm:=M.tm
 have hel:=M.el
 have hmr:=M.mroom
 have d1:=Xf (f:=thA) hp
 have d2:=Xg p
 have r1:=Xe (f:=thA) hp
 have hW:=M.si.tv p hp
 have w1:IntKind.i64.wrap (m.time+1)=m.time+1:=Xc (by omega) (by omega)
 have hnp:p<m.next.length:=by omega
 have hpp:p<m.progs.length:=by omega
 have hnx:=M.nx p hnp
 have hpl:=M.pr _ (Xi (xs:=m.progs) hpp)
 have b0:((m.s.th p).pc !=0)=false:=Yb h
 have d4:decide ((p:Int)<((m.next.map iA).length:Int))=true:=Xf hnp
 have r3:(m.next.map iA)[p]?=some (iA (m.next.getD p default)):=Xe hnp
 have d5:decide ((p:Int)<((m.progs.map Xp).length:Int))=true:=Xf hpp
 have r4:(m.progs.map Xp)[p]?=some (Xp (m.progs.getD p default)):=Xe hpp
 unfold canV at hc
 rw [show decide ((m.s.th p).pc≠0)=false from decide_eq_false (by simpa using h),Bool.false_or] at hc
 simp only [Bool.and_eq_true,decide_eq_true_eq] at hc
 obtain ⟨hc1,hc2,hc3⟩:=hc
 have hol:(m.next.getD p default).toNat<(m.progs.getD p default).length:=by omega
 have ho:Vx (opAt m p)=true:=Xwb hpl _ (Xi hol)
 obtain ⟨s2,hs2⟩:∃ s2,s2=Y5 m.s p (opAt m p):=⟨_,rfl⟩
 have hl2:p<s2.ths.length:=by rw [hs2,Xnf];exact hp
 have hre:(s2.th p).res=(⟨refV m.s.c (m.s.th p) (opAt m p),0⟩:Rs):=by rw [hs2];exact Xne hp
 have d3:=Xf (f:=thA) hl2
 have r6:=Xe (f:=thA) hl2
 have st1:=r3
 have d6:decide (0≤m.next.getD p default)=true:=decide_eq_true hnx.1
 have d7:decide (m.next.getD p default<(((m.progs.getD p default).map opA).length:Int))=true:=decide_eq_true (by rw [List.length_map];exact hc2)
 have b3:decide (m.next.getD p default≥(((m.progs.getD p default).map opA).length:Int))=false:=decide_eq_false (by rw [List.length_map];omega)
 have b4:decide (((m.evs.map evA).length:Int)≥80)=false:=decide_eq_false (by rw [List.length_map];omega)
 have r5:((m.progs.getD p default).map opA)[(m.next.getD p default).toNat]?=some (opA (opAt m p)):=Xe hol
 have hpl2:=Xnb hpl
 have w2:IntKind.i64.wrap (m.next.getD p default+1)=m.next.getD p default+1:=Xc (by omega) (by omega)
 have e3:decide (((m.evs.map evA).length+1)*64≤Yf)=true:=decide_eq_true (by rw [List.length_map];show _≤140737488355328;omega)
 have hso:=fun {n:Nat}=>Xna (n:=n) hs hr hi hp ho h
 rw [←hs2] at hso
 by_cases h2:refV m.s.c (m.s.th p) (opAt m p)=0
 ·rw [Xwe hs2 h h2]
  rw [if_pos h2] at hso
  have fq2:=@hso
  have x1:=fun {x y:R}=>Xn (x:=x) (y:=y) e3
  refine goD ?_
  clear x1
  refine okPk ?_
  simp only [macA,thsA,Xl,Yt,evsA,List.map_set,List.map_append,List.map_cons,List.map_nil,Zj,w1,w2]
  try rfl
 ·rw [Xwf hs2 h h2,←hre]
  have hel2:(m.evs++[(⟨p,opAt m p,⟨0,0⟩,m.time,-1⟩:Ev)]).length≤80:=by rw [List.length_append];simp only [List.length_cons,List.length_nil];omega
  rw [if_neg h2] at hso
  have fq2:=@hso
  have x1:=fun {x y:R}=>Xn (x:=x) (y:=y) e3
  refine goD ?_
  clear x1
  have hwl:IntKind.i64.wrap ((((m.evs++[(⟨p,opAt m p,⟨0,0⟩,m.time,-1⟩:Ev)]).map evA).length:Int) - 1)=(((m.evs++[(⟨p,opAt m p,⟨0,0⟩,m.time,-1⟩:Ev)]).length:Nat):Int) - 1:=by rw [List.length_map];exact Xc (by omega) (by omega)
  refine (X9 (fun e (j:Nat)=>e.set 4 (.int .i64 ((j:Int) - 1))) (fun h _=>h.set 1 (some ⟨false,false,true,17,[[.int .i64 s2.c.th,.int .i64 s2.c.keys,.int .i64 s2.c.cap,.int .i64 s2.c.b,.int .i64 s2.c.p,.int .i64 s2.c.cm,.ref 21 [(0,6)],.ref 21 [(0,7)],.ref 21 [(0,8)],.int .i64 s2.steps,.int .i64 s2.changes,.int .i64 s2.retries,.int .i64 s2.faults,Yt m.progs,.lst 1 ((m.next.map iA).set p [.int .i64 (IntKind.i64.wrap (m.next.getD p default+1))]),.lst 8 ((m.evs++[(⟨p,opAt m p,⟨0,0⟩,m.time,-1⟩:Ev)]).map evA),.int .i64 m.time]]⟩)) (fun j=>some ⟨.bool true,macA ⟨s2,m.progs,(m.next.set p (m.next.getD p default+1)),Zk (m.evs++[(⟨p,opAt m p,⟨0,0⟩,m.time,-1⟩:Ev)]) p m.time (s2.th p).res j,m.time+1⟩⟩) (fun j=>j≤(m.evs++[(⟨p,opAt m p,⟨0,0⟩,m.time,-1⟩:Ev)]).length) (fun j=>j) (m.evs++[(⟨p,opAt m p,⟨0,0⟩,m.time,-1⟩:Ev)]).length (by rw [←hwl,Xwg];rfl) (Nat.le_refl _) (by show _<18446744073709551616;omega) ?_).trans rfl
  intro j f hj IH
  rcases j with _ | j
  ·have z1:decide (((0:Nat):Int) - 1≥0)=false:=rfl
   refine goD ?_
   refine okPk ?_
   unfold Zk
   simp only [macA,thsA,Xl,Yt,evsA,List.map_set,List.map_append,List.map_cons,List.map_nil,Zj,w1,w2]
   try rfl
  ·have q1:decide (((j+1:Nat):Int) - 1≥0)=true:=decide_eq_true (by omega)
   have q2:decide (0≤((j+1:Nat):Int) - 1)=true:=decide_eq_true (by omega)
   have q3:decide (((j+1:Nat):Int) - 1<(((m.evs++[(⟨p,opAt m p,⟨0,0⟩,m.time,-1⟩:Ev)]).map evA).length:Int))=true:=decide_eq_true (by rw [List.length_map];omega)
   have hti:(((j+1:Nat):Int) - 1).toNat=j:=by omega
   have r2:((m.evs++[(⟨p,opAt m p,⟨0,0⟩,m.time,-1⟩:Ev)]).map evA)[(((j+1:Nat):Int) - 1).toNat]?=some (evA ((m.evs++[(⟨p,opAt m p,⟨0,0⟩,m.time,-1⟩:Ev)]).getD j default)):=by rw [hti];exact Xe hj
   have st1:=r2
   have hL:(((j+1:Nat):Int) - 1).toNat<((m.evs++[(⟨p,opAt m p,⟨0,0⟩,m.time,-1⟩:Ev)]).map evA).length:=by rw [hti,List.length_map];exact hj
   have x8:=fun {row:List AV} {x y:R}=>Xn (x:=x) (y:=y) (Xlp (j:=(((j+1:Nat):Int) - 1).toNat) (x:=row) q3)
   have hwj:IntKind.i64.wrap (((j+1:Nat):Int) - 1 - 1)=(j:Int) - 1:=by rw [Xc (by omega) (by omega)];omega
   by_cases he:((m.evs++[(⟨p,opAt m p,⟨0,0⟩,m.time,-1⟩:Ev)]).getD j default).th=(p:Int)
   ·have b1:(((m.evs++[(⟨p,opAt m p,⟨0,0⟩,m.time,-1⟩:Ev)]).getD j default).th==(p:Int))=true:=Yk he
    rw [show Zk (m.evs++[(⟨p,opAt m p,⟨0,0⟩,m.time,-1⟩:Ev)]) p m.time (s2.th p).res (j+1)=(m.evs++[(⟨p,opAt m p,⟨0,0⟩,m.time,-1⟩:Ev)]).set j {(m.evs++[(⟨p,opAt m p,⟨0,0⟩,m.time,-1⟩:Ev)]).getD j default with en:=m.time,res:=(s2.th p).res} from if_pos he]
    refine goD ?_
    refine okPk ?_
    simp only [macA,thsA,Xl,Yt,evsA,List.map_set,List.map_append,List.map_cons,List.map_nil,Zj,w1,w2,hti]
    try rfl
   ·have b1:(((m.evs++[(⟨p,opAt m p,⟨0,0⟩,m.time,-1⟩:Ev)]).getD j default).th==(p:Int))=false:=Xt he
    rw [show Zk (m.evs++[(⟨p,opAt m p,⟨0,0⟩,m.time,-1⟩:Ev)]) p m.time (s2.th p).res (j+1)=Zk (m.evs++[(⟨p,opAt m p,⟨0,0⟩,m.time,-1⟩:Ev)]) p m.time (s2.th p).res j from if_neg he]
    refine goD ?_
    exact IH j _ _ (by omega) (by omega) (by rw [hwj];rfl) rfl
theorem Xcw {n:Nat} {m:Mac} {p:Nat} (M:MI m) (hp:p<m.s.ths.length) (ht:m.time<1000000):callP cfg (n+67) 89 [.pv (macA m),.int .i64 (p:Int)]=some ⟨.bool (canV m p),macA (if canV m p=true then Um m p else m)⟩:=by
 by_cases hc:canV m p=true
 ·rw [if_pos hc,hc]
  by_cases h:(m.s.th p).pc=0
  ·exact X27 M hp hc h
  ·exact X26 M hp h
 ·replace hc:canV m p=false:=by simpa using hc
  rw [if_neg (by rw [hc];simp),hc]
  refine X0w M hp hc ht ?_
  refine Classical.byContradiction fun h=>?_
  unfold canV at hc
  rw [decide_eq_true ht,decide_eq_true h] at hc
  simp at hc
end Go.Proofs.YtbploohjimpcaaaGreat.A
