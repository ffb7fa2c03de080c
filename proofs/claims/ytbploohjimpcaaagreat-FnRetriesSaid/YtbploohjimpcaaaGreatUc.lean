/- What the program's functions answer (Uc): no condition. -/
import Derived.Test.YtbploohjimpcaaaGreatUb
set_option linter.unusedVariables false
set_option linter.unusedSimpArgs false
namespace Go.Proofs.YtbploohjimpcaaaGreat.A
open Go Go.Abs
set_option maxRecDepth 100000
noncomputable section
theorem IA.gh {c:Cf} {m:Mm} {T:Nat→Th} {G G':Gh} (A:IA c m T G) (h1:G'.ls=G.ls) (h2:G'.sq=G.sq) (h3:G'.nx=G.nx) (h4:G'.pb=G.pb) (h5:G'.ow=G.ow):IA c m T G':=by
 cases G;cases G'
 dsimp only at h1 h2 h3 h4 h5
 subst h1 h2 h3 h4 h5
 obtain ⟨g,t⟩:=A
 refine ⟨⟨g.gn,g.ch,g.lp,g.pk,g.pl,g.so,g.sx,g.oh,g.ho,g.o1,g.of,g.op,g.or,g.si,g.ob,g.a0⟩,fun q hq=>?_⟩
 have H:=t q hq
 exact ⟨H.f1,H.f2,H.f3,H.p2,H.p3,H.r1,H.r2,H.r3,H.lk,H.wm,H.lm,H.w1,H.w2,H.w3,H.w4,H.g0,H.gp,H.gc,H.gn,H.z0,H.z1,H.nz,H.pu,H.rd,H.nr⟩
def stmG (G:Gh) (i:Nat) (v:Int):Gh:={G with hi:=fun j=>if j≠i∧G.hi j=0∧G.su j=i∧(G.pb j).isSome=true then v else G.hi j}
def freed (m:Mm) (t:Th):List Int:=t.limbo.filter fun h=>!(fndT t (m.hz t.pos.toNat)).contains h
inductive SP (c:Cf) (m:Mm) (G:Gh) (p:Nat) (t:Th):Mm→Th→Gh→Int→Int→Prop where
 | k1 (h:t.pc=1):SP c m G p t m {t with seen:=m.ck,pc:=if m.ck≥c.cm then 5 else 2} G 0 0
 | k2 (h:t.pc=2):SP c m G p t {m with an:=upd m.an p t.seen} {t with pc:=3} G (if m.an p=t.seen then 0 else 1) 0
 | k3 (h:t.pc=3):SP c m G p t m {t with pc:=if m.ck=t.seen then 4 else 1} G 0 (if m.ck=t.seen then 0 else 1)
 | k4a (h:t.pc=4) (hs:m.ck=t.seen):SP c m G p t {m with ck:=t.seen+1} (endT {t with snap:=t.seen} ⟨0,0⟩) G 1 0
 | k4b (h:t.pc=4) (hs:¬m.ck=t.seen):SP c m G p t m (endT {t with snap:=t.seen} ⟨0,0⟩) G 0 0
 | k5 (h:t.pc=5):SP c m G p t {m with an:=upd m.an p 0} (endT t ⟨5,0⟩) G (if m.an p=0 then 0 else 1) 0
 | k10 (h:t.pc=10):SP c m G p t m (goOn {t with prev:=0,curr:=unmk (m.hd (kk t))}) G 0 0
 | k11 (h:t.pc=11):SP c m G p t {m with hz:=upd m.hz (2*p+0) t.curr} {t with pc:=12} G (if m.hz (2*p+0)=t.curr then 0 else 1) 0
 | k12y (h:t.pc=12) (hs:lkv m t=t.curr):SP c m G p t m {t with pc:=13} G 0 0
 | k12n (h:t.pc=12) (hs:¬lkv m t=t.curr):SP c m G p t m {t with pc:=10} G 0 1
 | k13 (h:t.pc=13):SP c m G p t m {t with next:=m.ol (ix t.curr),pc:=if isMk (m.ol (ix t.curr))=true then 14 else if t.op.k=2 then 16 else 15} G 0 0
 | k14b (h:t.pc=14) (hs:lkv m t=t.curr) (hz:t.prev≠0):SP c m G p t {m with ol:=upd m.ol (ix t.prev) (unmk t.next)} (goOn {t with curr:=unmk t.next}) (unlG G (kk t) ((G.ls (kk t)).filter fun j=>decide (j≠ix t.curr))) (if t.curr=unmk t.next then 0 else 1) 0
 | k14c (h:t.pc=14) (hs:¬lkv m t=t.curr):SP c m G p t m {t with pc:=10} G 0 1
 | k15 (h:t.pc=15):SP c m G p t {m with hz:=upd m.hz (2*p+1) t.curr} (goOn {t with prev:=t.curr,curr:=unmk t.next}) G (if m.hz (2*p+1)=t.curr then 0 else 1) 0
 | k16 (h:t.pc=16):SP c m G p t m {t with stamp:=m.st (ix t.curr),pc:=if m.st (ix t.curr)=0 then 17 else if m.st (ix t.curr)≤t.snap then 19 else 15} G 0 0
 | k17 (h:t.pc=17):SP c m G p t m {t with seen:=m.ck,pc:=18} G 0 0
 | k18a (h:t.pc=18) (hs:m.st (ix t.curr)=0):SP c m G p t {m with st:=upd m.st (ix t.curr) t.seen} {t with pc:=16} (stmG G (ix t.curr) t.seen) (if 0=t.seen then 0 else 1) 0
 | k18b (h:t.pc=18) (hs:¬m.st (ix t.curr)=0):SP c m G p t m {t with pc:=16} G 0 0
 | k19 (h:t.pc=19):SP c m G p t m {t with res:=⟨0,m.vl (ix t.curr)⟩,pc:=20} G 0 0
 | k20 (h:t.pc=20):SP c m G p t {m with hz:=upd m.hz (2*p+0) 0} {t with pc:=21} G (if m.hz (2*p+0)=0 then 0 else 1) 0
 | k21 (h:t.pc=21):SP c m G p t {m with hz:=upd m.hz (2*p+1) 0} (endT t t.res) G (if m.hz (2*p+1)=0 then 0 else 1) 0
 | k30a (h:t.pc=30) (hs:m.ar≥c.cap):SP c m G p t m (endT t ⟨2,0⟩) G 0 0
 | k30b (h:t.pc=30) (hs:¬m.ar≥c.cap):SP c m G p t m {t with seen:=m.ar,pc:=31} G 0 0
 | k31a (h:t.pc=31) (hs:m.ar=t.seen):SP c m G p t {m with ar:=t.seen+1} {t with node:=mkH t.seen (m.gn t.seen.toNat),pc:=32} {G with ow:=upd G.ow t.seen.toNat (.pr p)} 1 0
 | k31b (h:t.pc=31) (hs:¬m.ar=t.seen):SP c m G p t m {t with pc:=30} G 0 1
 | k32 (h:t.pc=32):SP c m G p t {m with vl:=upd m.vl (ix t.node) t.op.v} {t with pc:=33} G (if m.vl (ix t.node)=t.op.v then 0 else 1) 0
 | k33 (h:t.pc=33):SP c m G p t {m with st:=upd m.st (ix t.node) 0} {t with pc:=34} G (if m.st (ix t.node)=0 then 0 else 1) 0
 | k34 (h:t.pc=34):SP c m G p t {m with hz:=upd m.hz (2*p+1) t.node} {t with pc:=35} G (if m.hz (2*p+1)=t.node then 0 else 1) 0
 | k35 (h:t.pc=35):SP c m G p t m {t with curr:=unmk (m.hd (ok t)),pc:=if unmk (m.hd (ok t))=0 then 41 else 36} G 0 0
 | k36 (h:t.pc=36):SP c m G p t {m with hz:=upd m.hz (2*p+0) t.curr} {t with pc:=37} G (if m.hz (2*p+0)=t.curr then 0 else 1) 0
 | k37y (h:t.pc=37) (hs:m.hd (ok t)=t.curr):SP c m G p t m {t with pc:=38} G 0 0
 | k37n (h:t.pc=37) (hs:¬m.hd (ok t)=t.curr):SP c m G p t m {t with pc:=35} G 0 1
 | k38 (h:t.pc=38):SP c m G p t m {t with stamp:=m.st (ix t.curr),pc:=if m.st (ix t.curr)=0 then 39 else 41} G 0 0
 | k39 (h:t.pc=39):SP c m G p t m {t with seen:=m.ck,pc:=40} G 0 0
 | k40a (h:t.pc=40) (hs:m.st (ix t.curr)=0):SP c m G p t {m with st:=upd m.st (ix t.curr) t.seen} {t with pc:=38} (stmG G (ix t.curr) t.seen) (if 0=t.seen then 0 else 1) 0
 | k40b (h:t.pc=40) (hs:¬m.st (ix t.curr)=0):SP c m G p t m {t with pc:=38} G 0 0
 | k41 (h:t.pc=41):SP c m G p t {m with ol:=upd m.ol (ix t.node) t.curr} {t with pc:=42} G (if m.ol (ix t.node)=t.curr then 0 else 1) 0
 | k42a (h:t.pc=42) (hs:m.hd (ok t)=t.curr):SP c m G p t {m with hd:=upd m.hd (ok t) t.node} {t with pc:=43} (pubG G (ok t) (ix t.node) p m.ck) (if t.curr=t.node then 0 else 1) 0
 | k42b (h:t.pc=42) (hs:¬m.hd (ok t)=t.curr):SP c m G p t m {t with pc:=35} G 0 1
 | k43 (h:t.pc=43):SP c m G p t m {t with seen:=m.ck,pc:=44} G 0 0
 | k44a (h:t.pc=44) (hs:m.st (ix t.node)=0):SP c m G p t {m with st:=upd m.st (ix t.node) t.seen} {t with pc:=45} (stmG G (ix t.node) t.seen) (if 0=t.seen then 0 else 1) 0
 | k44b (h:t.pc=44) (hs:¬m.st (ix t.node)=0):SP c m G p t m {t with pc:=45} G 0 0
 | k45 (h:t.pc=45):SP c m G p t m {t with buf:=if t.curr≠0∧Zt ⟨t.curr,t.op.key,t.stamp,m.st (ix t.node)⟩=true∧t.buf.length<100 then t.buf++[⟨t.curr,t.op.key,t.stamp,m.st (ix t.node)⟩] else t.buf,pc:=46} G 0 0
 | k46 (h:t.pc=46):SP c m G p t {m with hz:=upd m.hz (2*p+0) 0} {t with pc:=47} G (if m.hz (2*p+0)=0 then 0 else 1) 0
 | k47y (h:t.pc=47) (hs:Xin c t=true):SP c m G p t {m with hz:=upd m.hz (2*p+1) 0} {clr t with pc:=50} G (if m.hz (2*p+1)=0 then 0 else 1) 0
 | k47n (h:t.pc=47) (hs:¬Xin c t=true):SP c m G p t {m with hz:=upd m.hz (2*p+1) 0} (endT t ⟨0,0⟩) G (if m.hz (2*p+1)=0 then 0 else 1) 0
 | k50a (h:t.pc=50) (hs:t.pos+1<c.th):SP c m G p t m {t with found:=fndT t (m.an t.pos.toNat),pos:=t.pos+1} G 0 0
 | k50b (h:t.pc=50) (hs:¬t.pos+1<c.th):SP c m G p t m (scnE c t (fndT t (m.an t.pos.toNat))) G 0 0
 | k60 (h:t.pc=60):SP c m G p t m {t with seen:=m.ol (ix (tgt t)),pc:=61} G 0 0
 | k61a (h:t.pc=61) (hs:m.ol (ix (tgt t))=t.seen):SP c m G p t {m with ol:=upd m.ol (ix (tgt t)) (mrk t.seen)} {t with pc:=10} G (if t.seen=mrk t.seen then 0 else 1) 0
 | k61b (h:t.pc=61) (hs:¬m.ol (ix (tgt t))=t.seen):SP c m G p t m {t with pc:=60} G 0 1
 | k62 (h:t.pc=62):SP c m G p t {m with hz:=upd m.hz (2*p+0) 0} {t with pc:=63} G (if m.hz (2*p+0)=0 then 0 else 1) 0
 | k63 (h:t.pc=63):SP c m G p t {m with hz:=upd m.hz (2*p+1) 0} (fin c t) G (if m.hz (2*p+1)=0 then 0 else 1) 0
 | k70a (h:t.pc=70) (hs:t.pos+1<2*c.th):SP c m G p t m {t with found:=fndT t (m.hz t.pos.toNat),pos:=t.pos+1} G 0 0
 | k70b (h:t.pc=70) (hs:¬t.pos+1<2*c.th):SP c m G p t {m with gn:=fun i=>if i∈(freed m t).map ix then m.gn i+1 else m.gn i} (endT {t with limbo:=t.limbo.filter fun h=>(fndT t (m.hz t.pos.toNat)).contains h,free:=t.free++(freed m t).map idxB} ⟨0,0⟩) (freG G (freed m t) p) 0 0
 | k80 (h:t.pc=80):SP c m G p t {m with an:=upd m.an p 0} (endT {t with snap:=0} ⟨0,0⟩) G (if m.an p=0 then 0 else 1) 0
theorem thU {s s':Sta} {p q:Nat} {t:Th} (h:s'.ths=s.ths.set p t) (hp:p<s.ths.length):s'.th q=if q=p then t else s.th q:=by
 unfold Sta.th
 rw [h]
 simp only [List.getD_eq_getElem?_getD,List.getElem?_set]
 by_cases e:p=q
 ·subst e;simp [hp]
 ·rw [if_neg e,if_neg (fun h=>e h.symm)]
theorem th_upd {s u:Sta} {p:Nat} {t:Th} (h:u.ths=s.ths.set p t) (hp:p<s.ths.length):u.th=upd s.th p t:=by
 funext q
 rw [thU h hp]
 unfold upd
 rfl
section
variable {s:Sta} {p:Nat} {G:Gh}
theorem TA.cu (H:CV s) {j:Nat} {h:Int} {k:Nat} {q:Nat} (g:Gd s.c (mm s) s.th G q j h k):curB s h=true:=by
 obtain ⟨⟨i,h1,h2,_⟩,_⟩:=g
 rw [h2];exact cur_hl H h1
def StepOK (s:Sta) (p:Nat) (G:Gh):Prop:=∃ m' t' G' dc dr,SP s.c (mm s) G p (s.th p) m' t' G' dc dr∧RS s p m' t' dc dr∧IA s.c m' (upd s.th p t') G'
theorem RS.fin {m':Mm} {t':Th} {dc dr:Int} {G':Gh} (R:RS s p m' t' dc dr) (X:IA s.c m' (upd s.th p t') G') (S:SP s.c (mm s) G p (s.th p) m' t' G' dc dr):StepOK s p G:=⟨_,_,_,_,_,S,R,X⟩
variable {ns:Nat→Nat}
theorem IA.s0 (H:SI s ns) (hp:p<s.ths.length) (A:IA s.c (mm s) s.th G) (h:(s.th p).pc=1∨(s.th p).pc=2∨(s.th p).pc=3∨(s.th p).pc=4∨(s.th p).pc=5∨(s.th p).pc=80):StepOK s p G:=by
 have T:=(H.tv p hp).1
 have hpt:(p:Int)<s.c.th:=by have:=H.cv.lt;omega
 rcases h with h | h | h | h | h | h
 ·exact (rs1 H.cv T hp h).fin (A.plain hpt _ h (by omega) (by dsimp only;split <;> omega) (by dsimp only;split <;> omega) (by dsimp only;split <;> omega) (.no (by dsimp only;split <;> omega))) (.k1 h)
 ·exact (rs2 H.cv T hp h).fin (A.plain hpt _ h (by omega) (by dsimp only;omega) (by dsimp only;omega) (by dsimp only;omega) (.no (by dsimp only;omega))) (.k2 h)
 ·exact (rs3 H.cv T hp h).fin (A.plain hpt _ h (by omega) (by dsimp only;split <;> omega) (by dsimp only;split <;> omega) (by dsimp only;split <;> omega) (.no (by dsimp only;split <;> omega))) (.k3 h)
 ·by_cases hs:(mm s).ck=(s.th p).seen
  ·exact (rs4a H.cv T hp h hs).fin (A.plain hpt _ h (by omega) (.inl (by show (0:Int)<10;omega)) (fun x=>by rcases x with x | x <;> cases x) (fun x=>by have:=x.1;exact absurd this (by show ¬(22:Int)≤0;omega)) (.no (by show ¬(0:Int)=70;omega))) (.k4a h hs)
  ·exact (rs4b H.cv T hp h hs).fin (A.plain hpt _ h (by omega) (.inl (by show (0:Int)<10;omega)) (fun x=>by rcases x with x | x <;> cases x) (fun x=>by have:=x.1;exact absurd this (by show ¬(22:Int)≤0;omega)) (.no (by show ¬(0:Int)=70;omega))) (.k4b h hs)
 ·exact (rs5 H.cv T hp h).fin (A.plain hpt _ h (by omega) (.inl (by show (0:Int)<10;omega)) (fun x=>by rcases x with x | x <;> cases x) (fun x=>by have:=x.1;exact absurd this (by show ¬(22:Int)≤0;omega)) (.no (by show ¬(0:Int)=70;omega))) (.k5 h)
 ·exact (rs80 H.cv T hp h).fin (A.plain hpt _ h (by omega) (.inl (by show (0:Int)<10;omega)) (fun x=>by rcases x with x | x <;> cases x) (fun x=>by have:=x.1;exact absurd this (by show ¬(22:Int)≤0;omega)) (.no (by show ¬(0:Int)=70;omega))) (.k80 h)
theorem IA.s1 (H:SI s ns) (hp:p<s.ths.length) (A:IA s.c (mm s) s.th G) (h:(s.th p).pc=10∨(s.th p).pc=11∨(s.th p).pc=12∨(s.th p).pc=13∨(s.th p).pc=14∨(s.th p).pc=15):StepOK s p G:=by
 have T:=(H.tv p hp).1
 have hpt:(p:Int)<s.c.th:=by have:=H.cv.lt;omega
 have hA:=A.t p hpt
 have hv:11≤(s.th p).pc∧(s.th p).pc≤19→(s.th p).prev≠0→curB s (s.th p).prev=true:=fun x y=>TA.cu H.cv (hA.gp x y)
 have hc:13≤(s.th p).pc∧(s.th p).pc≤19→curB s (s.th p).curr=true:=fun x=>TA.cu H.cv (hA.g0 x)
 rcases h with h | h | h | h | h | h
 ·exact (rs10 H.cv T hp h).fin (ia10 A hpt T h) (.k10 h)
 ·exact (rs11 H.cv T hp h).fin (ia11 A hpt h) (.k11 h)
 ·have R:=rs12 H.cv T hp h (hv (by omega))
  by_cases hl:lkv (mm s) (s.th p)=(s.th p).curr
  ·rw [if_pos hl,if_pos hl] at R
   exact R.fin (ia12y A hpt T h hl) (.k12y h hl)
  ·rw [if_neg hl,if_neg hl] at R
   exact R.fin (ia12n A hpt h (by omega)) (.k12n h hl)
 ·exact (rs13 H.cv T hp h (hc (by omega))).fin (ia13 A hpt h) (.k13 h)
 ·by_cases hl:lkv (mm s) (s.th p)=(s.th p).curr
  ·obtain ⟨h1,L,h2,h3,_⟩:=ia14 A hpt T h hl
   subst h2
   exact (rs14b H.cv T hp h (hv (by omega)) hl h1).fin h3 (.k14b h hl h1)
  ·exact (rs14c H.cv T hp h (hv (by omega)) hl).fin (ia12n A hpt h (by omega)) (.k14c h hl)
 ·exact (rs15 H.cv T hp h).fin (ia15 A hpt T h) (.k15 h)
theorem IA.s2 (H:SI s ns) (hp:p<s.ths.length) (A:IA s.c (mm s) s.th G) (h:(s.th p).pc=16∨(s.th p).pc=17∨(s.th p).pc=18∨(s.th p).pc=19∨(s.th p).pc=20∨(s.th p).pc=21):StepOK s p G:=by
 have T:=(H.tv p hp).1
 have hpt:(p:Int)<s.c.th:=by have:=H.cv.lt;omega
 have hA:=A.t p hpt
 have hc:13≤(s.th p).pc∧(s.th p).pc≤19→curB s (s.th p).curr=true:=fun x=>TA.cu H.cv (hA.g0 x)
 have h2:=hA.rd (by omega)
 rcases h with h | h | h | h | h | h
 ·exact (rs16 H.cv T hp h (hc (by omega))).fin (iaR A hpt _ h (by omega) (by dsimp only;split <;> (try split) <;> omega)) (.k16 h)
 ·exact (rs17 H.cv T hp h).fin (iaR A hpt _ h (by omega) (by dsimp only;omega)) (.k17 h)
 ·by_cases hs:(mm s).st (ix (s.th p).curr)=0
  ·exact (rs18a H.cv T hp h (hc (by omega)) hs).fin ((iaR A hpt _ h (by omega) (by dsimp only;omega)).gh (G':=stmG G (ix (s.th p).curr) (s.th p).seen) rfl rfl rfl rfl rfl) (.k18a h hs)
  ·exact (rs18b H.cv T hp h (hc (by omega)) hs).fin (iaR A hpt _ h (by omega) (by dsimp only;omega)) (.k18b h hs)
 ·exact (rs19 H.cv T hp h (hc (by omega))).fin (A.plain hpt _ h (by omega) (by dsimp only;omega) (fun _=>h2) (by dsimp only;omega) (.no (by dsimp only;omega))) (.k19 h)
 ·exact (rs20 H.cv T hp h).fin (A.plain hpt _ h (by omega) (by dsimp only;omega) (fun _=>h2) (by dsimp only;omega) (.no (by dsimp only;omega)) (e5:=upd2 (by omega))) (.k20 h)
 ·exact (rs21 H.cv T hp h).fin (A.plain hpt _ h (by omega) (.inl (by show (0:Int)<10;omega)) (fun x=>by rcases x with x | x <;> cases x) (fun x=>by have:=x.1;exact absurd this (by show ¬(22:Int)≤0;omega)) (.no (by show ¬(0:Int)=70;omega)) (e5:=upd2 (by omega))) (.k21 h)
theorem IA.s3 (H:SI s ns) (hp:p<s.ths.length) (A:IA s.c (mm s) s.th G) (h:(s.th p).pc=30∨(s.th p).pc=31∨(s.th p).pc=32∨(s.th p).pc=33∨(s.th p).pc=34∨(s.th p).pc=35∨(s.th p).pc=36∨(s.th p).pc=37):StepOK s p G:=by
 have T:=(H.tv p hp).1
 have I:=(H.tv p hp).2
 have hpt:(p:Int)<s.c.th:=by have:=H.cv.lt;omega
 have hA:=A.t p hpt
 have hn:32≤(s.th p).pc∧(s.th p).pc≤42→curB s (s.th p).node=true:=fun x=>by
  obtain ⟨i,h1,h2,_⟩:=hA.p2 x
  rw [h2];exact cur_hl H.cv h1
 rcases h with h | h | h | h | h | h | h | h
 ·by_cases hs:(mm s).ar≥s.c.cap
  ·exact (rs30a H.cv T hp h hs).fin (A.plain hpt _ h (by omega) (.inl (by show (0:Int)<10;omega)) (fun x=>by rcases x with x | x <;> cases x) (fun x=>by have:=x.1;exact absurd this (by show ¬(22:Int)≤0;omega)) (.no (by show ¬(0:Int)=70;omega))) (.k30a h hs)
  ·exact (rs30b H.cv T hp h hs).fin (A.plain hpt _ h (by omega) (by dsimp only;omega) (by dsimp only;omega) (by dsimp only;omega) (.no (by dsimp only;omega))) (.k30b h hs)
 ·by_cases hs:(mm s).ar=(s.th p).seen
  ·exact (rs31a H.cv T hp h hs).fin (ia31 A hpt h hs (by have:=I.w1 h;omega)) (.k31a h hs)
  ·exact (rs31b H.cv T hp h hs).fin (A.plain hpt _ h (by omega) (by dsimp only;omega) (by dsimp only;omega) (by dsimp only;omega) (.no (by dsimp only;omega))) (.k31b h hs)
 ·exact (rs32 H.cv T hp h (hn (by omega))).fin (iaW A hpt _ h rfl (by omega) (by dsimp only;omega) (by dsimp only;omega) (by dsimp only;omega) (by dsimp only;omega) (by dsimp only;omega) (by dsimp only;omega) (fun _ _ _ _=>rfl)) (.k32 h)
 ·exact (rs33 H.cv T hp h (hn (by omega))).fin (iaW A hpt _ h rfl (by omega) (by dsimp only;omega) (by dsimp only;omega) (by dsimp only;omega) (by dsimp only;omega) (by dsimp only;omega) (by dsimp only;omega) (fun _ _ _ _=>rfl)) (.k33 h)
 ·exact (rs34 H.cv T hp h).fin (iaW A hpt _ h rfl (by omega) (by dsimp only;omega) (by dsimp only;omega) (by dsimp only;omega) (fun _=>upd_s) (by dsimp only;omega) (by dsimp only;omega) (upd2 (by omega))) (.k34 h)
 ·have hz1:=hA.z1 (by omega)
  refine (rs35 H.cv T hp h).fin (iaW A hpt _ h rfl (by omega) ?_ ?_ ?_ (fun _=>hz1) ?_ ?_ (fun _ _ _ _=>rfl)) (.k35 h)
  ·dsimp only;split <;> omega
  ·dsimp only
   intro x y
   split at x
   ·exact absurd (by assumption) y
   ·omega
  ·dsimp only;split <;> omega
  ·dsimp only
   intro x
   split at x
   ·omega
   ·assumption
  ·dsimp only;split <;> omega
 ·have hz1:=hA.z1 (by omega)
  exact (rs36 H.cv T hp h).fin (iaW A hpt _ h rfl (by omega) (by dsimp only;omega) (by dsimp only;omega) (fun _=>upd_s) (fun _=>(upd_n (by omega)).trans hz1) (fun _=>hA.nz (by omega)) (by dsimp only;omega) (upd2 (by omega))) (.k36 h)
 ·have hz1:=hA.z1 (by omega)
  have R:=rs37 H.cv T hp h
  by_cases hl:(mm s).hd (s.th p).op.key.toNat=(s.th p).curr
  ·rw [if_pos hl,if_pos hl] at R
   refine R.fin (iaW (b:=38) A hpt _ h rfl (by omega) (by omega) ?_ (by dsimp only;omega) (fun _=>hz1) (by dsimp only;omega) (by dsimp only;omega) (fun _ _ _ _=>rfl)) (.k37y h hl)
   intro _ _
   have hk:=ok_lt (T:=s.th) (p:=p) T (by omega)
   have hch:=A.g.ch _ hk
   unfold ok at hch
   rw [hl] at hch
   obtain ⟨i,B,h1,h2⟩:=hch.hd (hA.nz (by omega))
   have:=Gd.new A (q:=p) (j:=0) (i:=i) (k:=ok (s.th p)) hk (by unfold ok;rw [h1];simp) (by rw [hA.z0 (by omega),h2])
   dsimp only
   rw [h2]
   exact this.to A.g hpt (.no (by dsimp only;omega)) rfl rfl
  ·rw [if_neg hl,if_neg hl] at R
   exact R.fin (iaW (b:=35) A hpt _ h rfl (by omega) (by omega) (by dsimp only;omega) (by dsimp only;omega) (fun _=>hz1) (by dsimp only;omega) (by dsimp only;omega) (fun _ _ _ _=>rfl)) (.k37n h hl)
theorem IA.s4 (H:SI s ns) (hp:p<s.ths.length) (A:IA s.c (mm s) s.th G) (h:(s.th p).pc=38∨(s.th p).pc=39∨(s.th p).pc=40∨(s.th p).pc=41∨(s.th p).pc=42∨(s.th p).pc=43∨(s.th p).pc=44)
 (h38:(s.th p).pc=38∨(s.th p).pc=39∨(s.th p).pc=40→(s.th p).curr≠0):StepOK s p G:=by
 have T:=(H.tv p hp).1
 have I:=(H.tv p hp).2
 have hpt:(p:Int)<s.c.th:=by have:=H.cv.lt;omega
 have hA:=A.t p hpt
 have hn:32≤(s.th p).pc∧(s.th p).pc≤42→curB s (s.th p).node=true:=fun x=>by
  obtain ⟨i,h1,h2,_⟩:=hA.p2 x
  rw [h2];exact cur_hl H.cv h1
 have hc:38≤(s.th p).pc∧(s.th p).pc≤42→(s.th p).curr≠0→curB s (s.th p).curr=true:=fun x y=>TA.cu H.cv (hA.gc x y)
 have hno:∀ t':Th,t'.pc=38∨t'.pc=39∨t'.pc=40∨t'.pc=41∨t'.pc=42→ScK (mm s) (s.th p) t':=fun t' x=>.no (by omega)
 rcases h with h | h | h | h | h | h | h
 ·have hz1:=hA.z1 (by omega)
  refine (rs38 H.cv T hp h (hc (by omega) (h38 (by omega)))).fin (iaW A hpt _ h rfl (by omega) ?_ (fun _ y=>(hA.gc (by omega) y).to A.g hpt (hno _ ?_) rfl rfl) ?_ (fun _=>hz1) ?_ ?_ (fun _ _ _ _=>rfl)) (.k38 h)
  all_goals dsimp only
  all_goals split <;> omega
 ·have hz1:=hA.z1 (by omega)
  exact (rs39 H.cv T hp h).fin (iaW A hpt _ h rfl (by omega) (by dsimp only;omega) (fun _ y=>(hA.gc (by omega) y).to A.g hpt (hno _ (by dsimp only;omega)) rfl rfl) (by dsimp only;omega) (fun _=>hz1) (by dsimp only;omega) (by dsimp only;omega) (fun _ _ _ _=>rfl)) (.k39 h)
 ·have hz1:=hA.z1 (by omega)
  by_cases hs:(mm s).st (ix (s.th p).curr)=0
  ·exact (rs40a H.cv T hp h (hc (by omega) (h38 (by omega))) hs).fin (IA.gh (G:=G) (G':=stmG G (ix (s.th p).curr) (s.th p).seen) (iaW A hpt {s.th p with pc:=38} h rfl (by omega) (by dsimp only;omega) (fun _ y=>(hA.gc (by omega) y).to A.g hpt (hno _ (by dsimp only;omega)) rfl rfl) (by dsimp only;omega) (fun _=>hz1) (by dsimp only;omega) (by dsimp only;omega) (fun _ _ _ _=>rfl)) rfl rfl rfl rfl rfl) (.k40a h hs)
  ·exact (rs40b H.cv T hp h (hc (by omega) (h38 (by omega))) hs).fin (iaW A hpt _ h rfl (by omega) (by dsimp only;omega) (fun _ y=>(hA.gc (by omega) y).to A.g hpt (hno _ (by dsimp only;omega)) rfl rfl) (by dsimp only;omega) (fun _=>hz1) (by dsimp only;omega) (by dsimp only;omega) (fun _ _ _ _=>rfl)) (.k40b h hs)
 ·obtain ⟨i,hi,e1,e2,e3⟩:=hA.p2 (by omega)
  subst e2
  have A2:=A.old (i:=ix (s.th p).node) (v:=(s.th p).curr) hpt hi e3 (by omega)
  have hA2:=A2.t p hpt
  have hz1:=hA.z1 (by omega)
  have R:=rs41 H.cv T hp h (hn (by omega))
  refine R.fin (iaW A2 hpt _ h rfl (by omega) (by dsimp only;omega) (fun _ y=>(hA2.gc (by omega) y).to A2.g hpt (.no (by dsimp only;omega)) rfl rfl) (by dsimp only;omega) (fun _=>hz1) (by dsimp only;omega) (fun _=>?_) (fun _ _ _ _=>rfl)) (.k41 h)
  dsimp only
  rw [upd_s]
 ·by_cases hl:(mm s).hd (s.th p).op.key.toNat=(s.th p).curr
  ·exact (rs42a H.cv T hp h hl).fin (ia42 A hpt T h hl) (.k42a h hl)
  ·have hz1:=hA.z1 (by omega)
   exact (rs42b H.cv T hp h hl).fin (iaW A hpt _ h rfl (by omega) (by dsimp only;omega) (by dsimp only;omega) (by dsimp only;omega) (fun _=>hz1) (by dsimp only;omega) (by dsimp only;omega) (fun _ _ _ _=>rfl)) (.k42b h hl)
 ·exact (rs43 H.cv T hp h).fin (iaP A hpt _ h rfl (by omega) (by dsimp only;omega)) (.k43 h)
 ·have hg:=hA.gn (by omega)
  have hc:=TA.cu H.cv hg
  by_cases hs:(mm s).st (ix (s.th p).node)=0
  ·exact (rs44a H.cv T hp h hc hs).fin ((iaP A hpt _ h rfl (by omega) (by dsimp only;omega)).gh (G':=stmG G (ix (s.th p).node) (s.th p).seen) rfl rfl rfl rfl rfl) (.k44a h hs)
  ·exact (rs44b H.cv T hp h hc hs).fin (iaP A hpt _ h rfl (by omega) (by dsimp only;omega)) (.k44b h hs)
theorem IA.s5 (H:SI s ns) (hp:p<s.ths.length) (A:IA s.c (mm s) s.th G) (h:(s.th p).pc=45∨(s.th p).pc=46∨(s.th p).pc=47∨(s.th p).pc=50∨(s.th p).pc=60∨(s.th p).pc=61∨(s.th p).pc=62∨(s.th p).pc=63∨(s.th p).pc=70)
 (hE:(s.th p).pc=45→(s.th p).curr≠0→Zt ⟨(s.th p).curr,(s.th p).op.key,(s.th p).stamp,(mm s).st (ix (s.th p).node)⟩=true∧(s.th p).buf.length<100)
 (hg:∀ i:Nat,(i:Int)<s.c.cap→(mm s).gn i<9998) (hfl:(s.th p).free.length+(s.th p).limbo.length≤100):StepOK s p G:=by
 have T:=(H.tv p hp).1
 have I:=(H.tv p hp).2
 have hb:=Xm H.cv.cf
 have hpt:(p:Int)<s.c.th:=by have:=H.cv.lt;omega
 have hA:=A.t p hpt
 rcases h with h | h | h | h | h | h | h | h | h
 ·refine (rs45 H.cv T hp h (TA.cu H.cv (hA.gn (by omega)))).fin (ia45 A hpt h _ ⟨rfl,rfl⟩ _ ?_) (.k45 h)
  exact ⟨fun x=>⟨x,hE h x⟩,fun x=>x.1⟩
 ·exact (rs46 H.cv T hp h).fin (A.plain hpt _ h (by omega) (by dsimp only;omega) (by dsimp only;omega) (by dsimp only;omega) (.no (by dsimp only;omega)) (e5:=upd2 (by omega))) (.k46 h)
 ·have R:=rs47 H.cv T hp h
  by_cases hm:Xin s.c (s.th p)=true
  ·rw [if_pos hm] at R
   exact R.fin (A.plain hpt _ h (by omega) (by dsimp only;omega) (by dsimp only;omega) (by dsimp only;omega) (.no (by dsimp only;omega)) (e5:=upd2 (by omega))) (.k47y h hm)
  ·rw [if_neg hm] at R
   exact R.fin (A.plain hpt _ h (by omega) (.inl (by show (0:Int)<10;omega)) (fun x=>by rcases x with x | x <;> cases x) (fun x=>by have:=x.1;exact absurd this (by show ¬(22:Int)≤0;omega)) (.no (by show ¬(0:Int)=70;omega)) (e5:=upd2 (by omega))) (.k47n h hm)
 ·by_cases hs:(s.th p).pos+1<s.c.th
  ·exact (rs50a H.cv T hp h hs).fin (A.plain hpt _ h (by omega) (by dsimp only;omega) (by dsimp only;omega) (by dsimp only;omega) (.no (by dsimp only;omega))) (.k50a h hs)
  ·have R:=rs50b H.cv T hp h hs
   generalize hf:fndT (s.th p) ((mm s).an (s.th p).pos.toNat)=f at R
   obtain ⟨h1,h2,h3,h4,h5,h6,h7,_⟩:=scnE_f (c:=s.c) (t:=s.th p) (f:=f)
   exact R.fin (ia50 A hpt h f _ h1 h2 h3 h4 h5 h6 h7) (by rw [←hf];exact .k50b h hs)
 ·have hw:(s.th p).work≠[]:=fun e=>T.wk (by omega) (by rw [e];rfl)
  obtain ⟨e,he,he2,_⟩:=tgt_mem hw
  obtain ⟨i,h1,h2,h3,h4⟩:=hA.r2 _ (Rt_work he)
  rw [he2] at h2
  exact (rs60 H.cv T hp h (by show curB s (tgt (s.th p))=true;rw [h2];exact cur_hl H.cv h1) (by show isMk (tgt (s.th p))=false;rw [h2];exact hl_mk)).fin (A.plain hpt _ h (by omega) (by dsimp only;omega) (by dsimp only;omega) (by dsimp only;omega) (.no (by dsimp only;omega))) (.k60 h)
 ·have hw:(s.th p).work≠[]:=fun e=>T.wk (by omega) (by rw [e];rfl)
  obtain ⟨e,he,he2,_⟩:=tgt_mem hw
  obtain ⟨i,h1,h2,h3,h4⟩:=hA.r2 _ (Rt_work he)
  rw [he2] at h2
  have hc:curB s (tgt (s.th p))=true:=by rw [h2];exact cur_hl H.cv h1
  have hmk:isMk (tgt (s.th p))=false:=by rw [h2];exact hl_mk
  by_cases hs:(mm s).ol (ix (tgt (s.th p)))=(s.th p).seen
  ·refine (rs61a H.cv T hp h hc hmk hs).fin (ia61 A hpt T h hw (fun j hj=>?_) hs) (.k61a h hs)
   rw [←at_ol hj];exact H.cv.ol j (by omega) hj
  ·exact (rs61b H.cv T hp h hc hmk hs).fin (A.plain hpt _ h (by omega) (by dsimp only;omega) (by dsimp only;omega) (by dsimp only;omega) (.no (by dsimp only;omega))) (.k61b h hs)
 ·exact (rs62 H.cv T hp h).fin (A.plain hpt _ h (by omega) (by dsimp only;omega) (by dsimp only;omega) (by dsimp only;omega) (.no (by dsimp only;omega)) (e5:=upd2 (by omega))) (.k62 h)
 ·obtain ⟨h1,h2,h3,h4,h5,h6,h7,_⟩:=fin_f (c:=s.c) (t:=s.th p)
  exact (rs63 H.cv T hp h).fin (A.plain hpt _ h (by omega) (by omega) (by omega) (by omega) (fun x=>.inl (h2 x)) (e5:=upd2 (by omega)) (ho:=h7) (hf:=h5) (hb:=h3) (hw:=h4) (hl:=h6)) (.k63 h)
 ·have q:=T.p7 h
  by_cases hs:(s.th p).pos+1<2*s.c.th
  ·exact (rs70a H.cv T hp h hs).fin (A.plain hpt _ h (by omega) (by dsimp only;omega) (by dsimp only;omega) (by dsimp only;omega) (fun _=>.inr ⟨h,rfl,q.1,rfl,rfl⟩)) (.k70a h hs)
  ·have R:=rs70b H.cv T hp h hs
   have hF:∀ x∈freed (mm s) (s.th p),∃ i:Nat,(i:Int)<s.c.cap∧x=hl (mm s).gn i∧ix x=i∧idxB x=i:=fun x hx=>by
    unfold freed at hx
    obtain ⟨i,h1,h2,h3,_⟩:=hA.r2 x (Rt_limbo (List.mem_filter.1 hx).1)
    have:=A.g.gn i h1
    exact ⟨i,h1,h2,h3,by rw [h2];exact hl_idx this.1 ⟨this.2.1,by omega⟩⟩
   have hn1:(freed (mm s) (s.th p)).Nodup:=by
    have:=hA.r1
    unfold Rt at this
    exact (((List.nodup_append.1 (List.nodup_append.1 (List.nodup_append.1 this).2.1).2.1).2.1)).filter _
   have hn:((freed (mm s) (s.th p)).map ix).Nodup:=by
    refine List.pairwise_map.2 (hn1.imp_of_mem fun {a b} ha hb hab e=>hab ?_)
    obtain ⟨i,_,i2,i3,_⟩:=hF a ha
    obtain ⟨j,_,j2,j3,_⟩:=hF b hb
    rw [i2,j2,←i3,←j3,e]
   have hlen:(freed (mm s) (s.th p)).length≤(s.th p).limbo.length:=List.length_filter_le _ _
   obtain ⟨k1,k2,k3⟩:=freeF_fold (freed (mm s) (s.th p)) s.gens (s.th p).free (fun x hx=>by
    obtain ⟨i,h1,h2,h3,h4⟩:=hF x hx
    have:=hg i h1
    have hlg:=H.cv.lg
    exact ⟨by omega,by omega,by rw [h3];exact this⟩) hn (by omega)
   have e:frS s (s.th p) (fndT (s.th p) ((mm s).hz (s.th p).pos.toNat))=(freed (mm s) (s.th p)).foldl Xz (s.gens,(s.th p).free):=rfl
   rw [e,k1,show (fun i=>((freed (mm s) (s.th p)).foldl Xz (s.gens,(s.th p).free)).1.getD i default)=fun i=>if i∈(freed (mm s) (s.th p)).map ix then (mm s).gn i+1 else (mm s).gn i from funext fun i=>k3 i] at R
   exact R.fin (ia70 A hpt h q.1 hs _ (freed (mm s) (s.th p)) rfl rfl _ (fun i=>rfl) hg) (.k70b h hs)
theorem IA.step (H:SI s ns) (hp:p<s.ths.length) (h0:(s.th p).pc≠0) (A:IA s.c (mm s) s.th G)
 (h38:(s.th p).pc=38∨(s.th p).pc=39∨(s.th p).pc=40→(s.th p).curr≠0)
 (hE:(s.th p).pc=45→(s.th p).curr≠0→Zt ⟨(s.th p).curr,(s.th p).op.key,(s.th p).stamp,(mm s).st (ix (s.th p).node)⟩=true∧(s.th p).buf.length<100)
 (hg:∀ i:Nat,(i:Int)<s.c.cap→(mm s).gn i<9998) (hfl:(s.th p).free.length+(s.th p).limbo.length≤100):StepOK s p G:=by
 have hm:=X0d (H.tv p hp).1.pcs
 simp only [pcL,List.mem_cons,List.not_mem_nil,or_false] at hm
 by_cases h1:(s.th p).pc<10∨(s.th p).pc=80
 ·exact IA.s0 H hp A (by omega)
 ·by_cases h2:(s.th p).pc<16
  ·exact IA.s1 H hp A (by omega)
  ·by_cases h3:(s.th p).pc<30
   ·exact IA.s2 H hp A (by omega)
   ·by_cases h4:(s.th p).pc<38
    ·exact IA.s3 H hp A (by omega)
    ·by_cases h5:(s.th p).pc<45
     ·exact IA.s4 H hp A (by omega) h38
     ·exact IA.s5 H hp A (by omega) hE hg hfl
end
end
noncomputable section
structure GB (c:Cf) (m:Mm) (G:Gh):Prop where
 s1:∀ i k:Nat,G.pb i=some k→0≤m.st i∧m.st i≤m.ck∧1≤G.lo i∧G.lo i≤m.ck∧(m.st i≠0→G.lo i≤m.st i)
 s2:∀ i k:Nat,G.pb i=some k→m.st i=0→(G.ls k).head?=some i
 s3:∀ k:Nat,(k:Int)<c.keys→∀ i∈G.ls k,∀ j∈G.ls k,G.sq i<G.sq j→m.st i≤G.lo j
 c1:1≤m.ck
structure TB (m:Mm) (G:Gh) (t:Th):Prop where
 b0:38≤t.pc∧t.pc≤40→t.curr≠0
 b1:t.pc=18∨t.pc=40→t.seen≤m.ck∧(m.st (ix t.curr)=0→G.lo (ix t.curr)≤t.seen)
 b2:t.pc=44→t.seen≤m.ck∧(m.st (ix t.node)=0→G.lo (ix t.node)≤t.seen)
 b3:34≤t.pc∧t.pc≤42→m.st (ix t.node)=0
 b4:41≤t.pc∧t.pc≤45→t.curr≠0→m.st (ix t.curr)≠0∧t.stamp=m.st (ix t.curr)
 b5:43≤t.pc∧t.pc≤45→t.curr≠0→m.st (ix t.curr)≤G.lo (ix t.node)
 b6:t.pc=45→m.st (ix t.node)≠0
structure IB (c:Cf) (m:Mm) (T:Nat→Th) (G:Gh):Prop where
 g:GB c m G
 t:∀ q:Nat,(q:Int)<c.th→TB m G (T q)
section
variable {c:Cf} {m m':Mm} {T:Nat→Th} {G G':Gh} {p:Nat}
theorem TB.plain {t:Th} (h:t.pc<18∨18<t.pc∧t.pc<34∨45<t.pc):TB m G t :=
 ⟨fun x=>by omega,fun x=>by omega,fun x=>by omega,fun x=>by omega,fun x=>by omega,fun x=>by omega,fun x=>by omega⟩
theorem goOn_lt {t:Th}:(goOn t).pc<18∨18<(goOn t).pc∧(goOn t).pc<34∨45<(goOn t).pc:=by
 rcases goOn_pc (t:=t) with h | h | h | h <;> omega
theorem TA.pcu {q:Nat} {t:Th} (H:TA c m T G q t) (g:GA c m G) (B0:38≤t.pc∧t.pc≤40→t.curr≠0) (h:t.pc=18∨t.pc=40∨(41≤t.pc∧t.pc≤45∧t.curr≠0)):∃ k,G.pb (ix t.curr)=some k:=by
 by_cases h1:t.pc≤19
 ·obtain ⟨⟨i,_,_,h3,h4⟩,_⟩:=H.g0 (by omega)
  exact ⟨_,by rw [h3];exact h4⟩
 ·by_cases h2:t.pc≤42
  ·obtain ⟨⟨i,_,_,h3,h4⟩,_⟩:=H.gc (by omega) (by
    rcases h with h | h | h
    ·omega
    ·exact B0 (by omega)
    ·exact h.2.2)
   exact ⟨_,by rw [h3];exact h4⟩
  ·have hc:t.curr≠0:=by
    rcases h with h | h | h
    ·omega
    ·omega
    ·exact h.2.2
   obtain ⟨i,h3,_,h4,h5⟩:=H.r2 t.curr (by unfold Rt pend;rw [if_pos ⟨by omega,by omega,hc⟩];simp)
   rw [h4];exact ow_pb g h3 h5
theorem TA.pno {q:Nat} {t:Th} (H:TA c m T G q t) (h:43≤t.pc∧t.pc≤45):G.pb (ix t.node)=some (ok t):=by
 obtain ⟨⟨i,_,_,h3,h4⟩,_⟩:=H.gn h
 rw [h3];exact h4
theorem TB.frame {q:Nat} {t:Th} (B:TB m G t) (H:TA c m T G q t) (g:GA c m G) (hck:m.ck≤m'.ck) (hst:∀ x k,G.pb x=some k→m'.st x=m.st x∨(m.st x=0∧m'.st x≠0)) (hpr:∀ x:Nat,(x:Int)<c.cap→G.ow x=.pr q→m'.st x=m.st x) (hlo:∀ x k,G.pb x=some k→G'.lo x=G.lo x):TB m' G' t:=by
 refine ⟨B.b0,fun x=>?_,fun x=>?_,fun x=>?_,fun x y=>?_,fun x y=>?_,fun x=>?_⟩
 ·obtain ⟨k,hk⟩:=H.pcu g B.b0 (by omega)
  obtain ⟨h1,h2⟩:=B.b1 x
  refine ⟨by omega,fun h3=>?_⟩
  rw [hlo _ _ hk]
  rcases hst _ _ hk with h4 | h4
  ·exact h2 (by rw [←h4];exact h3)
  ·exact absurd h3 h4.2
 ·have hk:=H.pno (by omega)
  obtain ⟨h1,h2⟩:=B.b2 x
  refine ⟨by omega,fun h3=>?_⟩
  rw [hlo _ _ hk]
  rcases hst _ _ hk with h4 | h4
  ·exact h2 (by rw [←h4];exact h3)
  ·exact absurd h3 h4.2
 ·obtain ⟨i,h1,h2,h3,h4⟩:=H.p2 (by omega)
  rw [h3,hpr i h1 h4,←h3];exact B.b3 x
 ·obtain ⟨k,hk⟩:=H.pcu g B.b0 (.inr (.inr ⟨x.1,x.2,y⟩))
  obtain ⟨h1,h2⟩:=B.b4 x y
  rcases hst _ _ hk with h4 | h4
  ·rw [h4];exact ⟨h1,h2⟩
  ·exact absurd h4.1 h1
 ·obtain ⟨k,hk⟩:=H.pcu g B.b0 (.inr (.inr ⟨by omega,x.2,y⟩))
  have hk2:=H.pno x
  obtain ⟨h1,h2⟩:=B.b4 (by omega) y
  rw [hlo _ _ hk2]
  rcases hst _ _ hk with h4 | h4
  ·rw [h4];exact B.b5 x y
  ·exact absurd h4.1 h1
 ·have hk:=H.pno (by omega)
  have h1:=B.b6 x
  rcases hst _ _ hk with h4 | h4
  ·rw [h4];exact h1
  ·exact h4.2
theorem IB.reg {t':Th} (B:IB c m T G) (A:IA c m T G) (e1:m'.st=m.st) (e2:m.ck≤m'.ck) (e3:G'.pb=G.pb) (e4:G'.ls=G.ls) (e5:G'.sq=G.sq) (e6:G'.lo=G.lo) (hown:TB m' G' t'):IB c m' (upd T p t') G':=by
 refine ⟨⟨fun i k h=>?_,by rw [e1,e3,e4];exact B.g.s2,by rw [e1,e4,e5,e6];exact B.g.s3,by have:=B.g.c1;omega⟩,fun q hq=>?_⟩
 ·rw [e3] at h
  obtain ⟨h1,h2,h3,h4,h5⟩:=B.g.s1 i k h
  rw [e1,e6]
  exact ⟨h1,by omega,h3,by omega,h5⟩
 ·by_cases e:q=p
  ·rw [e,upd_s];exact hown
  ·rw [upd_n e]
   exact (B.t q hq).frame (A.t q hq) A.g e2 (fun x _ _=>.inl (by rw [e1])) (fun x _ _=>by rw [e1]) (fun x _ _=>by rw [e6])
theorem IB.pl {t':Th} (B:IB c m T G) (A:IA c m T G) (h:t'.pc<18∨18<t'.pc∧t'.pc<34∨45<t'.pc) (e1:m'.st=m.st:=by rfl) (e2:m'.ck=m.ck:=by rfl) (e3:G'.pb=G.pb:=by rfl) (e4:G'.ls=G.ls:=by rfl) (e5:G'.sq=G.sq:=by rfl) (e6:G'.lo=G.lo:=by rfl):IB c m' (upd T p t') G' :=
 B.reg A e1 (by omega) e3 e4 e5 e6 (.plain h)
theorem IB.stm {t':Th} {i k:Nat} {v:Int} (B:IB c m T G) (A:IA c m T G) (hi:G.pb i=some k) (h0:m.st i=0) (hv:1≤v∧v≤m.ck) (hl:G.lo i≤v) (hown:TB {m with st:=upd m.st i v} (stmG G i v) t'):IB c {m with st:=upd m.st i v} (upd T p t') (stmG G i v):=by
 have hst:∀ x,x≠i→upd m.st i v x=m.st x:=fun x h=>upd_n h
 have hsi:upd m.st i v i=v:=upd_s
 refine ⟨⟨fun x k' hx=>?_,fun x k' hx hx0=>?_,fun k' hk' x hx y hy hlt=>?_,B.g.c1⟩,fun q hq=>?_⟩
 ·obtain ⟨h1,h2,h3,h4,h5⟩:=B.g.s1 x k' hx
  dsimp only
  by_cases e:x=i
  ·subst e;rw [hsi];exact ⟨by omega,hv.2,h3,h4,fun _=>hl⟩
  ·rw [hst x e];exact ⟨h1,h2,h3,h4,h5⟩
 ·dsimp only at hx0
  by_cases e:x=i
  ·subst e;rw [hsi] at hx0;omega
  ·rw [hst x e] at hx0;exact B.g.s2 x k' hx hx0
 ·dsimp only
  by_cases e:x=i
  ·exfalso
   have h1:=A.g.lp k' hk' x hx
   have h2:=B.g.s2 x k' h1 (by rw [e];exact h0)
   have hs:=A.g.so k' hk'
   have hy2:y∈G.ls k':=hy
   cases hL:G.ls k' with
   | nil=>rw [hL] at hy2;simp at hy2
   | cons a L =>
     rw [hL] at h2 hs hy2
     simp only [List.head?_cons,Option.some.injEq] at h2
     subst h2
     have hlt2:G.sq a<G.sq y:=hlt
     rcases List.mem_cons.1 hy2 with rfl | hy2
     ·omega
     ·have:=(List.pairwise_cons.1 hs).1 y hy2;omega
  ·rw [hst x e];exact B.g.s3 k' hk' x hx y hy hlt
 ·by_cases e:q=p
  ·rw [e,upd_s];exact hown
  ·rw [upd_n e]
   refine (B.t q hq).frame (A.t q hq) A.g (Int.le_refl _) (fun x k' hx=>?_) (fun x hx ho=>?_) (fun x _ _=>rfl)
   ·dsimp only
    by_cases ex:x=i
    ·subst ex;rw [hsi];exact .inr ⟨h0,by omega⟩
    ·exact .inl (hst x ex)
   ·dsimp only
    refine hst x (fun ex=>?_)
    have:=(A.g.ob x hx).1 (by rw [ex,hi];simp)
    rw [ho] at this
    rcases this with ⟨_,h⟩ | ⟨_,h⟩ <;> cases h
theorem IB.step {t':Th} {dc dr:Int} (A:IA c m T G) (hp:(p:Int)<c.th) (S:SP c m G p (T p) m' t' G' dc dr) (B:IB c m T G) (hss:(T p).pc=18∨(T p).pc=40∨(T p).pc=44→1≤(T p).seen):IB c m' (upd T p t') G':=by
 have H:=A.t p hp
 have BT:=B.t p hp
 cases S with
 | k1 h=>exact B.pl A (by dsimp only;split <;> omega)
 | k2 h=>exact B.pl A (by dsimp only;omega)
 | k3 h=>exact B.pl A (by dsimp only;split <;> omega)
 | k4a h hs=>exact B.reg A rfl (by dsimp only;omega) rfl rfl rfl rfl (.plain (.inl (by show (0:Int)<18;omega)))
 | k4b h hs=>exact B.pl A (.inl (by show (0:Int)<18;omega))
 | k5 h=>exact B.pl A (.inl (by show (0:Int)<18;omega))
 | k10 h=>exact B.pl A goOn_lt
 | k11 h=>exact B.pl A (by dsimp only;omega)
 | k12y h hs=>exact B.pl A (by dsimp only;omega)
 | k12n h hs=>exact B.pl A (by dsimp only;omega)
 | k13 h=>exact B.pl A (by dsimp only;split <;> (try split) <;> omega)
 | k14b h hs hz =>
   have hsub:∀ k' j:Nat,j∈(unlG G (kk (T p)) ((G.ls (kk (T p))).filter fun j=>decide (j≠ix (T p).curr))).ls k'→j∈G.ls k':=by
    intro k' j hj
    unfold unlG at hj
    dsimp only at hj
    by_cases e:k'=kk (T p)
    ·subst e;rw [upd_s] at hj;exact (List.mem_filter.1 hj).1
    ·rw [upd_n e] at hj;exact hj
   refine ⟨⟨B.g.s1,fun i k h1 h2=>?_,fun k hk i hi j hj=>B.g.s3 k hk i (hsub k i hi) j (hsub k j hj),B.g.c1⟩,fun q hq=>?_⟩
   ·have h3:=B.g.s2 i k h1 h2
    unfold unlG
    dsimp only
    by_cases e:k=kk (T p)
    ·subst e
     rw [upd_s]
     cases hL:G.ls (kk (T p)) with
     | nil=>rw [hL] at h3;cases h3
     | cons a L =>
       rw [hL] at h3
       simp only [List.head?_cons,Option.some.injEq] at h3
       subst h3
       rw [List.filter_cons_of_pos]
       ·rfl
       ·simp only [ne_eq,decide_eq_true_eq]
        intro e
        have hk:=(A.g.pk _ _ h1).2.1
        have h4:=(A.g.oh _ a hk (by rw [hL];rfl)).2
        obtain ⟨w1,w2⟩:=H.w4 h
        exact h4 (by unfold mkd;rw [e,w1];exact w2)
    ·rw [upd_n e];exact h3
   ·by_cases e:q=p
    ·rw [e,upd_s]
     exact .plain goOn_lt
    ·rw [upd_n e]
     exact (B.t q hq).frame (A.t q hq) A.g (Int.le_refl _) (fun _ _ _=>.inl rfl) (fun _ _ _=>rfl) (fun _ _ _=>rfl)
 | k14c h hs=>exact B.pl A (by dsimp only;omega)
 | k15 h=>exact B.pl A goOn_lt
 | k16 h=>exact B.pl A (by dsimp only;split <;> (try split) <;> omega)
 | k17 h =>
   refine B.reg A rfl (Int.le_refl _) rfl rfl rfl rfl ⟨fun x=>by dsimp only at x;omega,fun _=>⟨Int.le_refl _,fun _=>?_⟩,fun x=>by dsimp only at x;omega,fun x=>by dsimp only at x;omega,fun x=>by dsimp only at x;omega,fun x=>by dsimp only at x;omega,fun x=>by dsimp only at x;omega⟩
   obtain ⟨⟨i,_,_,h3,h4⟩,_⟩:=H.g0 (by omega)
   dsimp only
   rw [h3];exact (B.g.s1 _ _ h4).2.2.2.1
 | k18a h hs =>
   obtain ⟨k,hk⟩:=H.pcu A.g BT.b0 (by omega)
   obtain ⟨h1,h2⟩:=BT.b1 (by omega)
   exact B.stm A hk hs ⟨hss (by omega),h1⟩ (h2 hs) (.plain (by dsimp only;omega))
 | k18b h hs=>exact B.pl A (by dsimp only;omega)
 | k19 h=>exact B.pl A (by dsimp only;omega)
 | k20 h=>exact B.pl A (by dsimp only;omega)
 | k21 h=>exact B.pl A (.inl (by show (0:Int)<18;omega))
 | k30a h hs=>exact B.pl A (.inl (by show (0:Int)<18;omega))
 | k30b h hs=>exact B.pl A (by dsimp only;omega)
 | k31a h hs=>exact B.pl A (by dsimp only;omega)
 | k31b h hs=>exact B.pl A (by dsimp only;omega)
 | k32 h=>exact B.pl A (by dsimp only;omega)
 | k33 h =>
   obtain ⟨i,hi,e1,e2,e3⟩:=H.p2 (by omega)
   have hpb:=pb_no A.g hi (by rw [e3];intro k e;cases e) (by rw [e3];intro k e;cases e)
   have hne:∀ j k,G.pb j=some k→upd m.st (ix (T p).node) 0 j=m.st j:=fun j k h=>upd_n (fun e=>by rw [e,e2,hpb] at h;cases h)
   refine ⟨⟨fun j k hj=>?_,fun j k hj hj0=>?_,fun k hk x hx y hy hlt=>?_,B.g.c1⟩,fun q hq=>?_⟩
   ·dsimp only;rw [hne j k hj];exact B.g.s1 j k hj
   ·dsimp only at hj0;rw [hne j k hj] at hj0;exact B.g.s2 j k hj hj0
   ·dsimp only;rw [hne x k (A.g.lp k hk x hx)];exact B.g.s3 k hk x hx y hy hlt
   ·by_cases e:q=p
    ·rw [e,upd_s]
     exact ⟨fun x=>by dsimp only at x;omega,fun x=>by dsimp only at x;omega,fun x=>by dsimp only at x;omega,fun _=>upd_s,fun x=>by dsimp only at x;omega,fun x=>by dsimp only at x;omega,fun x=>by dsimp only at x;omega⟩
    ·rw [upd_n e]
     refine (B.t q hq).frame (A.t q hq) A.g (Int.le_refl _) (fun x k hx=>.inl (hne x k hx)) (fun x hx ho=>upd_n (fun ex=>?_)) (fun _ _ _=>rfl)
     rw [ex,e2,e3] at ho
     injection ho with ho
     exact e ho.symm
 | k34 h =>
   have h3:=BT.b3 (by omega)
   exact B.reg A rfl (Int.le_refl _) rfl rfl rfl rfl ⟨fun x=>by dsimp only at x;omega,fun x=>by dsimp only at x;omega,fun x=>by dsimp only at x;omega,fun _=>h3,fun x=>by dsimp only at x;omega,fun x=>by dsimp only at x;omega,fun x=>by dsimp only at x;omega⟩
 | k35 h =>
   have h3:=BT.b3 (by omega)
   refine B.reg A rfl (Int.le_refl _) rfl rfl rfl rfl ⟨fun x=>?_,fun x=>?_,fun x=>?_,fun _=>h3,fun x y=>?_,fun x=>?_,fun x=>?_⟩
   all_goals dsimp only at x
   all_goals split at x
   all_goals try omega
   exact absurd (by assumption) y
 | k36 h =>
   have h3:=BT.b3 (by omega)
   exact B.reg A rfl (Int.le_refl _) rfl rfl rfl rfl ⟨fun x=>by dsimp only at x;omega,fun x=>by dsimp only at x;omega,fun x=>by dsimp only at x;omega,fun _=>h3,fun x=>by dsimp only at x;omega,fun x=>by dsimp only at x;omega,fun x=>by dsimp only at x;omega⟩
 | k37y h hs =>
   have h3:=BT.b3 (by omega)
   exact B.reg A rfl (Int.le_refl _) rfl rfl rfl rfl ⟨fun _=>H.nz (by omega),fun x=>by dsimp only at x;omega,fun x=>by dsimp only at x;omega,fun _=>h3,fun x=>by dsimp only at x;omega,fun x=>by dsimp only at x;omega,fun x=>by dsimp only at x;omega⟩
 | k37n h hs =>
   have h3:=BT.b3 (by omega)
   exact B.reg A rfl (Int.le_refl _) rfl rfl rfl rfl ⟨fun x=>by dsimp only at x;omega,fun x=>by dsimp only at x;omega,fun x=>by dsimp only at x;omega,fun _=>h3,fun x=>by dsimp only at x;omega,fun x=>by dsimp only at x;omega,fun x=>by dsimp only at x;omega⟩
 | k38 h =>
   have h3:=BT.b3 (by omega)
   have h0:=BT.b0 (by omega)
   refine B.reg A rfl (Int.le_refl _) rfl rfl rfl rfl ⟨fun _=>h0,fun x=>?_,fun x=>?_,fun _=>h3,fun x y=>?_,fun x=>?_,fun x=>?_⟩
   all_goals dsimp only at x
   all_goals split at x
   all_goals try omega
   exact ⟨by assumption,rfl⟩
 | k39 h =>
   have h3:=BT.b3 (by omega)
   have h0:=BT.b0 (by omega)
   refine B.reg A rfl (Int.le_refl _) rfl rfl rfl rfl ⟨fun _=>h0,fun _=>⟨Int.le_refl _,fun _=>?_⟩,fun x=>by dsimp only at x;omega,fun _=>h3,fun x=>by dsimp only at x;omega,fun x=>by dsimp only at x;omega,fun x=>by dsimp only at x;omega⟩
   obtain ⟨⟨i,_,_,h4,h5⟩,_⟩:=H.gc (by omega) h0
   dsimp only
   rw [h4];exact (B.g.s1 _ _ h5).2.2.2.1
 | k40a h hs =>
   obtain ⟨k,hk⟩:=H.pcu A.g BT.b0 (by omega)
   obtain ⟨h1,h2⟩:=BT.b1 (by omega)
   have h3:=BT.b3 (by omega)
   have h0:=BT.b0 (by omega)
   obtain ⟨i,hi,e1,e2,e3⟩:=H.p2 (by omega)
   have hne:ix (T p).node≠ix (T p).curr:=fun e=>by
    have:=pb_no A.g hi (by rw [e3];intro k e;cases e) (by rw [e3];intro k e;cases e)
    rw [←e2,e,hk] at this;cases this
   exact B.stm A hk hs ⟨hss (by omega),h1⟩ (h2 hs) ⟨fun _=>h0,fun x=>by dsimp only at x;omega,fun x=>by dsimp only at x;omega,fun _=>(upd_n hne).trans h3,fun x=>by dsimp only at x;omega,fun x=>by dsimp only at x;omega,fun x=>by dsimp only at x;omega⟩
 | k40b h hs =>
   have h3:=BT.b3 (by omega)
   have h0:=BT.b0 (by omega)
   exact B.reg A rfl (Int.le_refl _) rfl rfl rfl rfl ⟨fun _=>h0,fun x=>by dsimp only at x;omega,fun x=>by dsimp only at x;omega,fun _=>h3,fun x=>by dsimp only at x;omega,fun x=>by dsimp only at x;omega,fun x=>by dsimp only at x;omega⟩
 | k41 h =>
   have h3:=BT.b3 (by omega)
   have h4:=BT.b4 (by omega)
   exact B.reg A rfl (Int.le_refl _) rfl rfl rfl rfl ⟨fun x=>by dsimp only at x;omega,fun x=>by dsimp only at x;omega,fun x=>by dsimp only at x;omega,fun _=>h3,fun _=>h4,fun x=>by dsimp only at x;omega,fun x=>by dsimp only at x;omega⟩
 | k42a h hs =>
   obtain ⟨i,hi,e1,e2,e3⟩:=H.p2 (by omega)
   have h3:=BT.b3 (by omega)
   have h4:=BT.b4 (by omega)
   have hpb:=pb_no A.g hi (by rw [e3];intro k e;cases e) (by rw [e3];intro k e;cases e)
   have hne:∀ j k,G.pb j=some k→j≠i:=fun j k h e=>by rw [e,hpb] at h;cases h
   rw [e2]
   rw [e2] at h3
   obtain ⟨k,hkd⟩:∃ k,k=ok (T p):=⟨_,rfl⟩
   rw [←hkd] at hs ⊢
   have hlo:∀ j,j≠i→(pubG G k i p m.ck).lo j=G.lo j:=fun j h=>upd_n h
   have hloi:(pubG G k i p m.ck).lo i=m.ck:=upd_s
   have hpbn:∀ j,j≠i→(pubG G k i p m.ck).pb j=G.pb j:=fun j h=>upd_n h
   have hpbi:(pubG G k i p m.ck).pb i=some k:=upd_s
   have hlsk:(pubG G k i p m.ck).ls k=i::G.ls k:=upd_s
   have hlsn:∀ k',k'≠k→(pubG G k i p m.ck).ls k'=G.ls k':=fun k' h=>upd_n h
   have hsq:∀ j,j≠i→(pubG G k i p m.ck).sq j=G.sq j:=fun j h=>upd_n h
   have hsqi:(pubG G k i p m.ck).sq i=G.nx:=upd_s
   refine ⟨⟨fun j k' hj=>?_,fun j k' hj hj0=>?_,fun k' hk' x hx y hy hlt=>?_,B.g.c1⟩,fun q hq=>?_⟩
   ·by_cases e:j=i
    ·subst e;rw [hloi];dsimp only;rw [h3]
     have:=B.g.c1
     exact ⟨by omega,by omega,by omega,by omega,fun x=>absurd rfl x⟩
    ·rw [hpbn j e] at hj;rw [hlo j e];exact B.g.s1 j k' hj
   ·by_cases e:j=i
    ·subst e
     rw [hpbi] at hj
     injection hj with hj
     rw [←hj,hlsk];rfl
    ·rw [hpbn j e] at hj
     have h5:=B.g.s2 j k' hj hj0
     by_cases ek:k'=k
     ·exfalso
      subst ek
      have hk:=(A.g.pk _ _ hj).2.1
      have hch:=A.g.ch k' hk
      rw [hs] at hch
      cases hL:G.ls k' with
      | nil=>rw [hL] at h5;cases h5
      | cons a L =>
        rw [hL] at h5 hch
        simp only [List.head?_cons,Option.some.injEq] at h5
        subst h5
        have ha:=(A.g.pk _ _ hj).1
        have hc0:(T p).curr≠0:=by rw [hch.1];have:=A.g.pos ha;omega
        have h6:=(h4 hc0).1
        rw [hch.1,A.g.ixh ha] at h6
        exact h6 hj0
     ·rw [hlsn k' ek];exact h5
   ·have hx2:x=i∧k'=k∨x∈G.ls k':=by
     by_cases ek:k'=k
     ·subst ek;rw [hlsk] at hx;exact (List.mem_cons.1 hx).imp (fun z=>⟨z,rfl⟩) (fun z=>z)
     ·rw [hlsn k' ek] at hx;exact .inr hx
    have hy2:y=i∧k'=k∨y∈G.ls k':=by
     by_cases ek:k'=k
     ·subst ek;rw [hlsk] at hy;exact (List.mem_cons.1 hy).imp (fun z=>⟨z,rfl⟩) (fun z=>z)
     ·rw [hlsn k' ek] at hy;exact .inr hy
    dsimp only
    rcases hx2 with ⟨hx2,_⟩ | hx2
    ·rw [hx2,h3]
     rcases hy2 with ⟨hy2,_⟩ | hy2
     ·rw [hy2,hloi];have:=B.g.c1;omega
     ·have hy3:=A.g.lp k' hk' y hy2
      rw [hlo y (hne y _ hy3)]
      have:=(B.g.s1 y _ hy3).2.2.1;omega
    ·have hx3:=A.g.lp k' hk' x hx2
     rcases hy2 with ⟨hy2,_⟩ | hy2
     ·rw [hy2,hloi];exact (B.g.s1 x _ hx3).2.1
     ·have hy3:=A.g.lp k' hk' y hy2
      rw [hsq x (hne x _ hx3),hsq y (hne y _ hy3)] at hlt
      rw [hlo y (hne y _ hy3)]
      exact B.g.s3 k' hk' x hx2 y hy2 hlt
   ·by_cases e:q=p
    ·rw [e,upd_s]
     refine ⟨fun x=>by dsimp only at x;omega,fun x=>by dsimp only at x;omega,fun x=>by dsimp only at x;omega,fun x=>by dsimp only at x;omega,fun _=>h4,fun _ y=>?_,fun x=>by dsimp only at x;omega⟩
     dsimp only
     rw [e2,hloi]
     obtain ⟨k',hk'⟩:=H.pcu A.g BT.b0 (.inr (.inr ⟨by omega,by omega,y⟩))
     exact (B.g.s1 _ _ hk').2.1
    ·rw [upd_n e]
     exact (B.t q hq).frame (A.t q hq) A.g (Int.le_refl _) (fun _ _ _=>.inl rfl) (fun _ _ _=>rfl) (fun x k' hx=>hlo x (hne x _ hx))
 | k42b h hs =>
   have h3:=BT.b3 (by omega)
   exact B.reg A rfl (Int.le_refl _) rfl rfl rfl rfl ⟨fun x=>by dsimp only at x;omega,fun x=>by dsimp only at x;omega,fun x=>by dsimp only at x;omega,fun _=>h3,fun x=>by dsimp only at x;omega,fun x=>by dsimp only at x;omega,fun x=>by dsimp only at x;omega⟩
 | k43 h =>
   have h4:=BT.b4 (by omega)
   have h5:=BT.b5 (by omega)
   refine B.reg A rfl (Int.le_refl _) rfl rfl rfl rfl ⟨fun x=>by dsimp only at x;omega,fun x=>by dsimp only at x;omega,fun _=>⟨Int.le_refl _,fun _=>?_⟩,fun x=>by dsimp only at x;omega,fun _=>h4,fun _=>h5,fun x=>by dsimp only at x;omega⟩
   exact (B.g.s1 _ _ (H.pno (by omega))).2.2.2.1
 | k44a h hs =>
   have hk:=H.pno (by omega)
   obtain ⟨h1,h2⟩:=BT.b2 h
   have h4:=BT.b4 (by omega)
   have h5:=BT.b5 (by omega)
   have hs1:=hss (by omega)
   have hne:(T p).curr≠0→ix (T p).curr≠ix (T p).node:=fun y e=>(h4 y).1 (by rw [e];exact hs)
   refine B.stm A hk hs ⟨hs1,h1⟩ (h2 hs) ⟨fun x=>by dsimp only at x;omega,fun x=>by dsimp only at x;omega,fun x=>by dsimp only at x;omega,fun x=>by dsimp only at x;omega,fun _ y=>?_,fun _ y=>?_,fun _=>?_⟩
   ·dsimp only;rw [upd_n (hne y)];exact h4 y
   ·dsimp only;rw [upd_n (hne y)];exact h5 y
   ·dsimp only;rw [upd_s];omega
 | k44b h hs =>
   have h4:=BT.b4 (by omega)
   have h5:=BT.b5 (by omega)
   exact B.reg A rfl (Int.le_refl _) rfl rfl rfl rfl ⟨fun x=>by dsimp only at x;omega,fun x=>by dsimp only at x;omega,fun x=>by dsimp only at x;omega,fun x=>by dsimp only at x;omega,fun _=>h4,fun _=>h5,fun _=>hs⟩
 | k45 h=>exact B.pl A (by dsimp only;omega)
 | k46 h=>exact B.pl A (by dsimp only;omega)
 | k47y h hs=>exact B.pl A (by dsimp only;omega)
 | k47n h hs=>exact B.pl A (.inl (by show (0:Int)<18;omega))
 | k50a h hs=>exact B.pl A (by dsimp only;omega)
 | k50b h hs=>exact B.pl A (by obtain ⟨h1,_⟩:=scnE_f (c:=c) (t:=T p) (f:=fndT (T p) (m.an (T p).pos.toNat));omega)
 | k60 h=>exact B.pl A (by dsimp only;omega)
 | k61a h hs=>exact B.pl A (by dsimp only;omega)
 | k61b h hs=>exact B.pl A (by dsimp only;omega)
 | k62 h=>exact B.pl A (by dsimp only;omega)
 | k63 h=>exact B.pl A (by obtain ⟨h1,_⟩:=fin_f (c:=c) (t:=T p);omega)
 | k70a h hs=>exact B.pl A (by dsimp only;omega)
 | k70b h hs =>
   have hpb:∀ j k,(freG G (freed m (T p)) p).pb j=some k→G.pb j=some k:=by
    intro j k hj
    unfold freG at hj
    dsimp only at hj
    split at hj
    ·cases hj
    ·exact hj
   refine ⟨⟨fun j k hj=>B.g.s1 j k (hpb j k hj),fun j k hj=>B.g.s2 j k (hpb j k hj),B.g.s3,B.g.c1⟩,fun q hq=>?_⟩
   by_cases e:q=p
   ·rw [e,upd_s];exact .plain (.inl (by show (0:Int)<18;omega))
   ·rw [upd_n e]
    exact (B.t q hq).frame (A.t q hq) A.g (Int.le_refl _) (fun _ _ _=>.inl rfl) (fun _ _ _=>rfl) (fun _ _ _=>rfl)
 | k80 h=>exact B.pl A (.inl (by show (0:Int)<18;omega))
end
end
noncomputable section
theorem len_le:∀ (n:Nat) (l:List Nat),l.Nodup→(∀ x∈l,x<n)→l.length≤n
 | 0,l,_,h=>by
   cases l with
   | nil=>exact Nat.le_refl _
   | cons a l=>exact absurd (h a (by simp)) (by omega)
 | n+1,l,hn,h=>by
   by_cases hm:n∈l
   ·have h1:=len_le n (l.erase n) (hn.erase n) (fun x hx=>by
     have h2:=h x (List.mem_of_mem_erase hx)
     have h3:x≠n:=fun e=>by rw [e] at hx;exact (hn.not_mem_erase) hx
     omega)
    rw [List.length_erase_of_mem hm] at h1
    omega
   ·have:=len_le n l hn (fun x hx=>by
     have h2:=h x hx
     have h3:x≠n:=fun e=>hm (by rw [←e];exact hx)
     omega)
    omega
section
variable {c:Cf} {m:Mm} {T:Nat→Th} {G:Gh} {p:Nat}
theorem TA.flen {q:Nat} {t:Th} (H:TA c m T G q t) (g:GA c m G) (hc:0≤c.cap):(t.free.length:Int)≤c.cap∧(t.limbo.length:Int)≤c.cap:=by
 constructor
 ·have h1:=len_le c.cap.toNat (t.free.map Int.toNat) (by
   refine List.pairwise_map.2 (H.f1.imp_of_mem fun {a b} ha hb hab e=>hab ?_)
   obtain ⟨i,_,h2,_⟩:=H.f2 a ha
   obtain ⟨j,_,h3,_⟩:=H.f2 b hb
   omega) (fun x hx=>by
   obtain ⟨a,ha,h4⟩:=List.mem_map.1 hx
   obtain ⟨i,h1,h2,_⟩:=H.f2 a ha
   omega)
  rw [List.length_map] at h1
  omega
 ·have hr:=H.r1
  unfold Rt at hr
  have hn:=(List.nodup_append.1 (List.nodup_append.1 (List.nodup_append.1 hr).2.1).2.1).2.1
  have h1:=len_le c.cap.toNat (t.limbo.map ix) (by
   refine List.pairwise_map.2 (hn.imp_of_mem fun {a b} ha hb hab e=>hab ?_)
   obtain ⟨i,_,h2,h3,_⟩:=H.r2 a (Rt_limbo ha)
   obtain ⟨j,_,h4,h5,_⟩:=H.r2 b (Rt_limbo hb)
   rw [h2,h4,←h3,←h5,e]) (fun x hx=>by
   obtain ⟨a,ha,h4⟩:=List.mem_map.1 hx
   obtain ⟨i,h1,h2,h3,_⟩:=H.r2 a (Rt_limbo ha)
   omega)
  rw [List.length_map] at h1
  omega
theorem TA.idle {T':Nat→Th} {t:Th} (A:TA c m T G p t) (t':Th) (h:t.pc=0) (hb:t'.pc=0∨t'.pc=1∨(t'.pc=10∧t'.op.k=2)∨t'.pc=80∨((t'.pc=50∨t'.pc=30)∧t'.op.k≠2))
 (hf:t'.free=t.free:=by rfl) (hb2:t'.buf=t.buf:=by rfl) (hw:t'.work=t.work:=by rfl) (hl2:t'.limbo=t.limbo:=by rfl):TA c m T' G p t':=by
 have hp:pend t'=pend t:=by rw [pend_no (by omega),pend_no (by omega)]
 have hk:¬wlk t'∧¬wlk t:=by
  unfold wlk
  constructor
  ·intro x;omega
  ·intro x;omega
 have hk2:wlk t'↔wlk t:=⟨fun x=>absurd x hk.1,fun x=>absurd x hk.2⟩
 refine ⟨by rw [hf];exact A.f1,by rw [hf];exact A.f2,by rw [hf];exact A.f3,fun x=>by omega,?_,by rw [Rt_eq hp hb2 hw hl2];exact A.r1,by rw [Rt_eq hp hb2 hw hl2];exact A.r2,by rw [Rt_eq hp hb2 hw hl2];exact A.r3,by rw [LKs_eq hp hb2 hw hk2];exact A.lk,fun x=>absurd x hk.1,by rw [hl2];exact A.lm,fun x=>absurd x hk.1,fun x=>absurd x hk.1,fun x=>by omega,fun x=>by omega,fun x=>by omega,fun x=>by omega,fun x=>by omega,fun x=>by omega,fun x=>by omega,fun x=>by omega,fun x=>by omega,fun x=>by omega,fun x=>by omega,fun x=>by omega⟩
 intro i hi x
 have:=(A.p3 i hi x).1
 omega
theorem take_last {xs:List Int} (h0:xs.length≠0):xs=xs.take (xs.length - 1)++[xs.getD (xs.length - 1) default]:=by
 have h1:xs.length - 1<xs.length:=by omega
 have h2:=(List.take_append_drop (xs.length - 1) xs).symm
 rw [List.drop_eq_getElem_cons h1,List.drop_eq_nil_of_le (by omega)] at h2
 have e:xs.getD (xs.length - 1) default=xs[xs.length - 1]:=by simp [List.getD_eq_getElem?_getD,h1]
 rw [e];exact h2
inductive BG (gens:List Int) (c:Cf) (t:Th) (o:Op3) (p:Nat) (G:Gh):Th→Gh→Prop where
 | no (h:refV c t o≠0):BG gens c t o p G {clr t with pc:=0,op:=o,res:=⟨refV c t o,0⟩} G
 | one (k:Int) (h:refV c t o=0) (hk:(k=1∧o.k=1)∨(k=10∧o.k=2)∨(k=80∧o.k=4)∨(k=50∧o.k=5)∨(k=30∧o.k≠1∧o.k≠2∧o.k≠4∧o.k≠5∧t.free.length=0)):BG gens c t o p G {clr t with pc:=k,op:=o,res:=⟨0,0⟩} G
 | pop (h:refV c t o=0) (hk:o.k≠1∧o.k≠2∧o.k≠4∧o.k≠5) (hf:t.free.length≠0):BG gens c t o p G {clr t with pc:=32,op:=o,res:=⟨0,0⟩,free:=t.free.take (t.free.length - 1),node:=mkH (t.free.getD (t.free.length - 1) default) (gens.getD (t.free.getD (t.free.length - 1) default).toNat default)} {G with ow:=upd G.ow (t.free.getD (t.free.length - 1) default).toNat (.pr p)}
theorem bg_of {s:Sta} {t:Th} {o:Op3}:∃ G',BG s.gens s.c t o p G (V8 s t o) G':=by
 unfold V8
 split
 ·rename_i hr
  unfold begT
  dsimp only
  by_cases h1:o.k=1
  ·rw [if_pos h1];exact ⟨_,.one 1 hr (.inl ⟨rfl,h1⟩)⟩
  ·rw [if_neg h1]
   by_cases h2:o.k=2
   ·rw [if_pos h2];exact ⟨_,.one 10 hr (.inr (.inl ⟨rfl,h2⟩))⟩
   ·rw [if_neg h2]
    by_cases h4:o.k=4
    ·rw [if_pos h4];exact ⟨_,.one 80 hr (.inr (.inr (.inl ⟨rfl,h4⟩)))⟩
    ·rw [if_neg h4]
     by_cases h5:o.k=5
     ·rw [if_pos h5];exact ⟨_,.one 50 hr (.inr (.inr (.inr (.inl ⟨rfl,h5⟩))))⟩
     ·rw [if_neg h5]
      by_cases hf:t.free.length=0
      ·rw [if_pos hf];exact ⟨_,.one 30 hr (.inr (.inr (.inr (.inr ⟨rfl,h1,h2,h4,h5,hf⟩))))⟩
      ·rw [if_neg hf];exact ⟨_,.pop hr ⟨h1,h2,h4,h5⟩ hf⟩
 ·rename_i hr
  exact ⟨_,.no hr⟩
theorem IA.start {gens:List Int} {o:Op3} {t':Th} {G':Gh} (A:IA c m T G) (hp:(p:Int)<c.th) (hg:∀ i:Nat,m.gn i=gens.getD i default) (h:(T p).pc=0) (S:BG gens c (T p) o p G t' G'):IA c m (upd T p t') G':=by
 have H:=A.t p hp
 cases S with
 | no hr=>exact A.reg hp (.no (by show ¬(0:Int)=70;omega)) rfl rfl rfl rfl (fun _ _ _ _=>rfl) (H.idle _ h (.inl rfl))
 | one k hr hk=>exact A.reg hp (.no (by dsimp only;omega)) rfl rfl rfl rfl (fun _ _ _ _=>rfl) (H.idle _ h (by dsimp only;omega))
 | pop hr hk hf =>
   have htl:=take_last hf
   obtain ⟨x,hx⟩:∃ x,x=(T p).free.getD ((T p).free.length - 1) default:=⟨_,rfl⟩
   rw [←hx] at htl ⊢
   obtain ⟨i,hi,e1,e2⟩:=H.f2 x (by rw [htl];simp)
   have hgn:=A.g.gn i hi
   have ei:x.toNat=i:=by omega
   rw [ei]
   have hnode:mkH x (gens.getD i default)=hl m.gn i:=by
    rw [←hg i,e1];exact hl_mkH hgn.1 ⟨hgn.2.1,by omega⟩
   have hnd:=H.f1
   rw [htl] at hnd
   obtain ⟨n1,n2,n3⟩:=List.nodup_append.1 hnd
   refine ⟨A.g.take hi hp m rfl rfl rfl (.inr ⟨⟨p,e2⟩,rfl⟩),fun q hq=>?_⟩
   by_cases e:q=p
   ·subst e
    rw [upd_s]
    refine H.got (m':=m) hi hgn _ rfl rfl (.inl h) rfl hnode hk.2.1 n1 (fun y hy=>⟨List.mem_of_mem_take hy,fun ey=>n3 y hy x (by simp) (by rw [ey,e1])⟩) (fun y hy hne=>?_) (by rw [e2];intro z;cases z)
    rw [htl] at hy
    rcases List.mem_append.1 hy with hy | hy
    ·exact hy
    ·rw [List.mem_singleton.1 hy] at hne;exact absurd e1 hne
   ·rw [upd_n e]
    have:=(A.t q hq).reg (p:=p) (t':={clr (T p) with pc:=32,op:=o,res:=⟨0,0⟩,free:=(T p).free.take ((T p).free.length - 1),node:=mkH x (gens.getD i default)}) A.g hp (.no (by dsimp only;omega)) (m':=m) rfl rfl (fun _ _=>rfl)
    refine this.own (by rw [e2];exact ⟨fun z=>(by injection z with z;exact e z.symm),fun z=>(by cases z),fun z=>(by cases z)⟩) ⟨fun z=>(by cases z),fun z=>?_,fun z=>(by cases z)⟩
    injection z with z
    exact e z.symm
theorem IB.start {gens:List Int} {o:Op3} {t':Th} {G':Gh} (B:IB c m T G) (A:IA c m T G) (S:BG gens c (T p) o p G t' G'):IB c m (upd T p t') G':=by
 cases S with
 | no hr=>exact B.pl A (.inl (by show (0:Int)<18;omega))
 | one k hr hk=>exact B.pl A (by dsimp only;omega)
 | pop hr hk hf=>exact B.pl A (by dsimp only;omega)
def bz (T:Nat→Th):Nat→Nat
 | 0=>0
 | n+1=>bz T n+if (T n).pc=0 then 0 else 1
theorem bz_upd {t':Th}:∀ {n:Nat},(p<n→bz (upd T p t') n+(if (T p).pc=0 then 0 else 1)=bz T n+(if t'.pc=0 then 0 else 1))∧(n≤p→bz (upd T p t') n=bz T n)
 | 0=>⟨fun h=>absurd h (by omega),fun _=>rfl⟩
 | n+1=>by
   obtain ⟨h1,h2⟩:=@bz_upd t' n
   constructor
   ·intro h
    unfold bz
    by_cases e:n=p
    ·subst e
     have:=h2 (Nat.le_refl _)
     rw [upd_s,this];omega
    ·have:=h1 (by omega)
     rw [upd_n e];omega
   ·intro h
    unfold bz
    rw [h2 (by omega),upd_n (by omega)]
end
structure SF (s:Sta) (G:Gh) (N:Nat):Prop where
 a:IA s.c (mm s) s.th G
 b:IB s.c (mm s) s.th G
 n:∀ i:Nat,(i:Int)<s.c.cap→(mm s).gn i+(bz s.th s.ths.length:Int)≤N
theorem SF.sp {s:Sta} {p:Nat} {ns:Nat→Nat} {G:Gh} {N:Nat} (F:SF s G N) (H:SI s ns) (hp:p<s.ths.length) (hn:ns p≤100) (h0:(s.th p).pc≠0) (hN:N≤9998) :
 ∃ m' t' G' dc dr,SP s.c (mm s) G p (s.th p) m' t' G' dc dr∧RS s p m' t' dc dr∧IA s.c m' (upd s.th p t') G'∧IB s.c m' (upd s.th p t') G'∧SF (stepV s p) G' N:=by
 have hb:=Xm H.cv.cf
 have hlt:=H.cv.lt
 have hpt:(p:Int)<s.c.th:=by omega
 obtain ⟨T,I⟩:=H.tv p hp
 have hA:=F.a.t p hpt
 have hB:=F.b.t p hpt
 have hfl:=hA.flen F.a.g (by omega)
 have hbz:1≤bz s.th s.ths.length:=by
  have:=(bz_upd (T:=s.th) (p:=p) (t':=endT (s.th p) ⟨0,0⟩) (n:=s.ths.length)).1 hp
  rw [if_neg h0,if_pos (show (endT (s.th p) ⟨0,0⟩).pc=0 from rfl)] at this
  omega
 obtain ⟨m',t',G',dc,dr,S,R,A'⟩:=F.a.step H hp h0 (fun x=>hB.b0 (by omega)) (fun h45 hc=>by
  obtain ⟨h1,h2⟩:=hB.b4 (by omega) hc
  have h3:=hB.b5 (by omega) hc
  have h4:=hB.b6 h45
  obtain ⟨k,hk⟩:=hA.pcu F.a.g hB.b0 (.inr (.inr ⟨by omega,by omega,hc⟩))
  have hkn:=hA.pno (by omega)
  have s1:=F.b.g.s1 _ _ hk
  have s2:=F.b.g.s1 _ _ hkn
  obtain ⟨i,hi,r2,r3,_⟩:=hA.r2 (s.th p).curr (by unfold Rt pend;rw [if_pos ⟨by omega,by omega,hc⟩];simp)
  have hgn:=F.a.g.gn i hi
  have ho:=Vu T h0
  have hck:=H.cv.ck
  have hck2:(mm s).ck≤99:=by show cl s 0≤99;omega
  constructor
  ·unfold Zt inB
   dsimp only
   rw [r2,hl_isH hgn.1 ⟨hgn.2.1,by omega⟩,hl_mk,←r2]
   simp only [Bool.not_false,Bool.true_and,Bool.and_eq_true,decide_eq_true_eq]
   have:=s2.2.2.2.2 h4
   omega
  ·have:=I.to
   rw [if_pos (by omega)] at this
   omega) (fun i hi=>by have:=F.n i hi;omega) (by omega)
 have B':=F.b.step F.a hpt S (fun h=>(I.ss h).1)
 refine ⟨m',t',G',dc,dr,S,R,A',B',?_⟩
 have e1:=R.m
 have e2:=th_upd R.t hp
 have e3:=R.c
 have e4:(stepV s p).ths.length=s.ths.length:=by rw [R.t,List.length_set]
 refine ⟨by rw [e1,e2,e3];exact A',by rw [e1,e2,e3];exact B',fun i hi=>?_⟩
 rw [e3] at hi
 rw [e1,e2,e4]
 have hu:=(bz_upd (T:=s.th) (p:=p) (t':=t') (n:=s.ths.length)).1 hp
 rw [if_neg h0] at hu
 have hgo:=F.n i hi
 by_cases hsame:m'.gn=(mm s).gn
 ·rw [hsame]
  split at hu <;> omega
 ·have:t'.pc=0∧m'.gn i≤(mm s).gn i+1:=by
   cases S <;> first | exact absurd rfl hsame | (refine ⟨rfl,?_⟩;dsimp only;split <;> omega)
  rw [if_pos this.1] at hu
  omega
theorem SF.bg {s:Sta} {p:Nat} {ns:Nat→Nat} {G:Gh} {N:Nat} (F:SF s G N) (H:SI s ns) (hp:p<s.ths.length) (h0:(s.th p).pc=0) (o:Op3) :
 ∃ G',BG s.gens s.c (s.th p) o p G (V8 s (s.th p) o) G'∧IA s.c (mm s) (upd s.th p (V8 s (s.th p) o)) G'∧SF (Y5 s p o) G' (N+1):=by
 have hpt:(p:Int)<s.c.th:=by have:=H.cv.lt;omega
 obtain ⟨G',S⟩:=bg_of (p:=p) (G:=G) (s:=s) (t:=s.th p) (o:=o)
 have A':=F.a.start hpt (fun i=>rfl) h0 S
 have e2:(Y5 s p o).th=upd s.th p (V8 s (s.th p) o):=th_upd (s:=s) rfl hp
 have e4:(Y5 s p o).ths.length=s.ths.length:=by unfold Y5;exact List.length_set
 refine ⟨G',S,A',?_,?_,fun i hi=>?_⟩
 ·rw [e2];exact A'
 ·rw [e2];exact F.b.start F.a S
 ·rw [e2,e4]
  have hu:=(bz_upd (T:=s.th) (p:=p) (t':=V8 s (s.th p) o) (n:=s.ths.length)).1 hp
  rw [if_pos h0] at hu
  have:=F.n i hi
  show (mm s).gn i+_≤_
  split at hu <;> omega
def G0:Gh:=⟨fun _=>[],fun _=>0,1,fun _=>none,fun _=>.un,fun _=>0,fun _=>0,fun i=>i⟩
theorem SF.new {c:Cf} (hc:Yp c=true):SF (Za c) G0 0:=by
 have hb:=Xm hc
 have S:=X4w hc
 have hth:∀ q:Nat,(q:Int)<c.th→(Za c).th q=th0:=fun q hq=>by
  unfold Sta.th Za
  dsimp only
  rw [List.getD_eq_getElem?_getD,List.getElem?_replicate,if_pos (by omega)]
  rfl
 have hcl:∀ i:Int,0≤i→cl (Za c) i=if i=0 then 1 else 0:=by
  intro i hi
  have hcc:=Xig hc
  unfold cl Za
  dsimp only
  rw [List.getD_eq_getElem?_getD,List.getElem?_set]
  by_cases e:i=0
  ·subst e
   rw [if_pos (by rfl),if_pos (by simp;omega),if_pos rfl]
   rfl
  ·rw [if_neg (by omega),if_neg e,List.getElem?_replicate]
   split <;> rfl
 have hhd:∀ k:Nat,(mm (Za c)).hd k=0:=fun k=>by
  unfold mm;dsimp only
  split
  ·rw [hcl _ (by show 0≤2+3*c.th+(k:Int);omega),if_neg (by show ¬2+3*c.th+(k:Int)=0;omega)]
  ·rfl
 have hgn:∀ i:Nat,(mm (Za c)).gn i=0:=fun i=>by
  unfold mm Za;dsimp only
  rw [List.getD_eq_getElem?_getD,List.getElem?_replicate]
  split <;> rfl
 have har:(mm (Za c)).ar=0:=by show cl (Za c) 1=0;rw [hcl 1 (by omega),if_neg (by omega)]
 have hck:(mm (Za c)).ck=1:=by show cl (Za c) 0=1;rw [hcl 0 (by omega),if_pos rfl]
 have hcap:(Za c).c.cap=c.cap:=rfl
 refine ⟨⟨⟨fun i hi=>⟨(by omega),(by rw [hgn];omega),(by rw [hgn];omega)⟩,fun k hk=>(by rw [hhd];rfl),fun k hk i hi=>(by cases hi),fun i k h=>(by cases h),fun i k h=>(by cases h),fun k hk=>List.Pairwise.nil,fun i=>(by show 0<1;omega),fun k i hk h=>(by cases h),fun k i hi h=>(by cases h),fun i hi=>⟨fun _=>(by rw [har];omega),fun _=>rfl⟩,fun i q hi h=>(by cases h),fun i q hi h=>(by cases h),fun i q hi h=>(by cases h),fun i j h=>absurd rfl h,fun i hi=>⟨fun h=>absurd rfl h,fun h=>(by rcases h with ⟨_,h⟩ | ⟨_,h⟩ <;> cases h)⟩,(by rw [har];omega)⟩,fun q hq=>?_⟩,⟨⟨fun i k h=>(by cases h),fun i k h=>(by cases h),fun k hk i hi=>(by cases hi),(by rw [hck];omega)⟩,fun q hq=>?_⟩,fun i hi=>?_⟩
 ·rw [hth q hq]
  have hnw:¬wlk th0:=fun x=>by have:=x.1;exact absurd this (by decide)
  have hRt:Rt th0=[]:=rfl
  have hLK:LKs th0=[]:=by unfold LKs;rw [if_neg hnw];rfl
  have h0:th0.pc=0:=rfl
  refine ⟨List.Pairwise.nil,fun x hx=>(by cases hx),fun i hi h=>(by cases h),fun x=>by omega,fun i hi h=>(by cases h),by rw [hRt];exact List.Pairwise.nil,fun h hh=>(by rw [hRt] at hh;cases hh),fun i hi h=>(by cases h),fun x hx=>(by rw [hLK] at hx;cases hx),fun x=>absurd x hnw,fun h hh=>(by cases hh),fun x=>absurd x hnw,fun x=>absurd x hnw,fun x=>by omega,fun x=>by omega,fun x=>by omega,fun x=>by omega,fun x=>by omega,fun x=>by omega,fun x=>by omega,fun x=>by omega,fun x=>by omega,fun x=>by omega,fun x=>by omega,fun x=>by omega⟩
 ·rw [hth q hq];exact .plain (.inl (by show (0:Int)<18;omega))
 ·rw [hgn]
  have:∀ n:Nat,n≤c.th.toNat→bz (Za c).th n=0:=by
   intro n
   induction n with
   | zero=>intro _;rfl
   | succ n ih =>
     intro hn
     unfold bz
     rw [ih (by omega),hth n (by omega),if_pos (show th0.pc=0 from rfl)]
  rw [this _ (Nat.le_of_eq (by simp [Za]))]
  omega
end
noncomputable section
def dm (m:Mm) (t:Th):Prop :=
 ((t.pc=2∨t.pc=3)∧m.ck≠t.seen)∨((t.pc=11∨t.pc=12∨t.pc=14)∧lkv m t≠t.curr)∨(t.pc=13∧isMk (m.ol (ix t.curr))=true∧lkv m t≠t.curr) ∨
 ((15≤t.pc∧t.pc≤19)∧m.ol (ix t.curr)≠t.next)∨(t.pc=31∧m.ar≠t.seen)∨((36≤t.pc∧t.pc≤42)∧m.hd (ok t)≠t.curr)∨(t.pc=61∧m.ol (ix (tgt t))≠t.seen)
theorem dm_no {m:Mm} {t:Th} (h:t.pc<2∨t.pc=4∨t.pc=5∨t.pc=10∨t.pc=20∨t.pc=21∨t.pc=30∨(32≤t.pc∧t.pc≤35)∨(43≤t.pc∧t.pc≤60)∨61<t.pc):¬dm m t:=by
 unfold dm
 rintro (x | x | x | x | x | x | x) <;> omega
theorem dm_go0 {m:Mm} {t:Th} (h:t.curr=0):¬dm m (goOn t):=by
 have:(goOn t).pc=20∨(goOn t).pc=62∨(goOn t).pc=60:=by
  unfold goOn
  rw [if_neg (by simpa using h)]
  split
  ·exact .inl rfl
  ·split
   ·exact .inr (.inl rfl)
   ·dsimp only;split
    ·exact .inr (.inl rfl)
    ·exact .inr (.inr rfl)
 exact dm_no (by omega)
theorem dm_same {m m':Mm} {t:Th} (e1:m'.ck=m.ck) (e2:m'.ar=m.ar) (e3:m'.hd=m.hd) (e4:m'.ol=m.ol):dm m' t→dm m t:=by
 have hl:lkv m' t=lkv m t:=by unfold lkv;rw [e3,e4]
 unfold dm
 rw [e1,e2,e3,e4,hl]
 exact fun x=>x
theorem upd_self {α:Type} {f:Nat→α} {i:Nat} {v:α} (h:f i=v):upd f i v=f:=by
 funext j
 unfold upd
 split
 ·rename_i e;rw [e,h]
 ·rfl
section
variable {c:Cf} {m m':Mm} {T:Nat→Th} {G G':Gh} {p:Nat} {t t':Th} {dc dr:Int}
theorem SP.chg (S:SP c m G p t m' t' G' dc dr):(dc=0∨dc=1)∧(dc=0→m'.ck=m.ck∧m'.ar=m.ar∧m'.hd=m.hd∧m'.ol=m.ol):=by
 cases S
 case k4a=>exact ⟨.inr rfl,fun x=>by omega⟩
 case k31a=>exact ⟨.inr rfl,fun x=>by omega⟩
 case k14b h hs hz =>
  refine ⟨by split <;> simp,fun x=>⟨rfl,rfl,rfl,upd_self ?_⟩⟩
  split at x
  ·unfold lkv at hs;rw [if_neg hz] at hs;rw [hs];assumption
  ·omega
 case k41 =>
  refine ⟨by split <;> simp,fun x=>⟨rfl,rfl,rfl,upd_self ?_⟩⟩
  split at x
  ·assumption
  ·omega
 case k42a h hs =>
  refine ⟨by split <;> simp,fun x=>⟨rfl,rfl,upd_self ?_,rfl⟩⟩
  split at x
  ·rw [hs];assumption
  ·omega
 case k61a h hs =>
  refine ⟨by split <;> simp,fun x=>⟨rfl,rfl,rfl,upd_self ?_⟩⟩
  split at x
  ·rw [hs];assumption
  ·omega
 all_goals first | exact ⟨.inl rfl,fun _=>⟨rfl,rfl,rfl,rfl⟩⟩ | exact ⟨by split <;> simp,fun _=>⟨rfl,rfl,rfl,rfl⟩⟩
theorem SP.own (S:SP c m G p (T p) m' t' G' dc dr) (A:IA c m T G) (hp:(p:Int)<c.th) (T2:TV c (T p)):(dr=0∨dr=1)∧(dr=1→dm m (T p)∧¬dm m' t')∧(dm m' t'→dm m (T p)):=by
 have H:=A.t p hp
 have key:∀ {P:Prop},¬dm m' t'→(dm m' t'→P):=fun h x=>absurd x h
 have z:(0:Int)=0∨(0:Int)=1:=.inl rfl
 have z1:∀ {P:Prop},(0:Int)=1→P:=fun x=>absurd x (by decide)
 cases S
 case k1 h =>
  refine ⟨z,z1,fun x=>?_⟩
  unfold dm at x
  dsimp only at x
  exfalso
  split at x <;> (rcases x with x | x | x | x | x | x | x <;> first | omega | exact x.2 rfl)
 case k2 h =>
  refine ⟨z,z1,fun x=>.inl ⟨.inl h,?_⟩⟩
  unfold dm at x
  dsimp only at x
  rcases x with x | x | x | x | x | x | x <;> first | exact x.2 | (exfalso;omega)
 case k3 h =>
  have hn:¬dm m {T p with pc:=if m.ck=(T p).seen then 4 else 1}:=dm_no (by dsimp only;split <;> omega)
  refine ⟨by split <;> simp,fun x=>⟨.inl ⟨.inr h,?_⟩,hn⟩,key hn⟩
  intro e;rw [if_pos e] at x;exact absurd x (by decide)
 case k10 h =>
  have hk:=kk_lt T2 (by omega)
  refine ⟨z,z1,fun x=>?_⟩
  exfalso
  by_cases hc:unmk (m.hd (kk (T p)))=0
  ·exact absurd x (dm_go0 (t:={T p with prev:=0,curr:=unmk (m.hd (kk (T p)))}) hc)
  ·rw [V9 (t:={T p with prev:=0,curr:=unmk (m.hd (kk (T p)))}) hc] at x
   unfold dm at x
   dsimp only at x
   rcases x with x | x | x | x | x | x | x <;> try omega
   apply x.2
   unfold lkv
   rw [if_pos rfl]
   show m.hd (kk (T p))=_
   rw [(A.g.ch _ hk).un]
 case k11 h =>
  refine ⟨z,z1,fun x=>?_⟩
  unfold dm at x ⊢
  dsimp only at x
  rcases x with x | x | x | x | x | x | x <;> first | exact .inr (.inl ⟨.inl h,x.2⟩) | (exfalso;omega)
 case k12y h hs =>
  refine ⟨z,z1,fun x=>?_⟩
  unfold dm at x
  dsimp only at x
  exfalso
  rcases x with x | x | x | x | x | x | x <;> first | omega | exact x.2.2 hs
 case k12n h hs=>exact ⟨.inr rfl,fun _=>⟨.inr (.inl ⟨by omega,hs⟩),dm_no (by dsimp only;omega)⟩,key (dm_no (by dsimp only;omega))⟩
 case k13 h =>
  refine ⟨z,z1,fun x=>?_⟩
  unfold dm at x ⊢
  dsimp only at x
  by_cases hm:isMk (m.ol (ix (T p).curr))=true
  ·rw [if_pos hm] at x
   rcases x with x | x | x | x | x | x | x <;> first | exact .inr (.inr (.inl ⟨h,hm,x.2⟩)) | (exfalso;omega)
  ·rw [if_neg hm] at x
   exfalso
   split at x <;> (rcases x with x | x | x | x | x | x | x <;> first | omega | exact x.2 rfl)
 case k14b h hs hz =>
  refine ⟨z,z1,fun x=>?_⟩
  exfalso
  by_cases hc:unmk (T p).next=0
  ·exact absurd x (dm_go0 (t:={T p with curr:=unmk (T p).next}) hc)
  ·rw [V9 (t:={T p with curr:=unmk (T p).next}) hc] at x
   unfold dm at x
   dsimp only at x
   rcases x with x | x | x | x | x | x | x <;> try omega
   apply x.2
   unfold lkv
   rw [if_neg hz]
   dsimp only
   rw [upd_s]
 case k14c h hs=>exact ⟨.inr rfl,fun _=>⟨.inr (.inl ⟨by omega,hs⟩),dm_no (by dsimp only;omega)⟩,key (dm_no (by dsimp only;omega))⟩
 case k15 h =>
  refine ⟨z,z1,fun x=>?_⟩
  obtain ⟨w3a,_⟩:=H.w3 (by omega)
  have hu:unmk (T p).next=(T p).next:=by unfold unmk;rw [w3a];rfl
  obtain ⟨⟨i,hi,e1,_,_⟩,_⟩:=H.g0 (by omega)
  have hc0:(T p).curr≠0:=by rw [e1];have:=A.g.pos hi;omega
  by_cases hc:unmk (T p).next=0
  ·exact absurd x (dm_go0 (t:={T p with prev:=(T p).curr,curr:=unmk (T p).next}) hc)
  ·rw [V9 (t:={T p with prev:=(T p).curr,curr:=unmk (T p).next}) hc] at x
   unfold dm at x ⊢
   dsimp only at x
   rcases x with x | x | x | x | x | x | x <;> try omega
   have x2:=x.2
   unfold lkv at x2
   rw [if_neg hc0] at x2
   dsimp only at x2
   rw [hu] at x2
   exact .inr (.inr (.inr (.inl ⟨by omega,x2⟩)))
 case k16 h =>
  refine ⟨z,z1,fun x=>?_⟩
  unfold dm at x ⊢
  dsimp only at x
  split at x
  ·rcases x with x | x | x | x | x | x | x <;> first | exact .inr (.inr (.inr (.inl ⟨by omega,x.2⟩))) | (exfalso;omega)
  ·split at x <;> (rcases x with x | x | x | x | x | x | x <;> first | exact .inr (.inr (.inr (.inl ⟨by omega,x.2⟩))) | (exfalso;omega))
 case k17 h =>
  refine ⟨z,z1,fun x=>?_⟩
  unfold dm at x ⊢
  dsimp only at x
  rcases x with x | x | x | x | x | x | x <;> first | exact .inr (.inr (.inr (.inl ⟨by omega,x.2⟩))) | (exfalso;omega)
 case k18a h hs =>
  refine ⟨z,z1,fun x=>?_⟩
  unfold dm at x ⊢
  dsimp only at x
  rcases x with x | x | x | x | x | x | x <;> first | exact .inr (.inr (.inr (.inl ⟨by omega,x.2⟩))) | (exfalso;omega)
 case k18b h hs =>
  refine ⟨z,z1,fun x=>?_⟩
  unfold dm at x ⊢
  dsimp only at x
  rcases x with x | x | x | x | x | x | x <;> first | exact .inr (.inr (.inr (.inl ⟨by omega,x.2⟩))) | (exfalso;omega)
 case k30b h hs =>
  refine ⟨z,z1,fun x=>?_⟩
  unfold dm at x
  dsimp only at x
  exfalso
  rcases x with x | x | x | x | x | x | x <;> first | omega | exact x.2 rfl
 case k31b h hs=>exact ⟨.inr rfl,fun _=>⟨.inr (.inr (.inr (.inr (.inl ⟨h,hs⟩)))),dm_no (by dsimp only;omega)⟩,key (dm_no (by dsimp only;omega))⟩
 case k35 h =>
  have hk:=ok_lt T2 (by omega)
  refine ⟨z,z1,fun x=>?_⟩
  have e:=(A.g.ch _ hk).un
  unfold dm at x
  dsimp only at x
  exfalso
  split at x <;> (rcases x with x | x | x | x | x | x | x <;> first | omega | exact x.2 e.symm)
 case k36 h =>
  refine ⟨z,z1,fun x=>?_⟩
  unfold dm at x ⊢
  dsimp only at x
  rcases x with x | x | x | x | x | x | x <;> first | exact .inr (.inr (.inr (.inr (.inr (.inl ⟨by omega,x.2⟩))))) | (exfalso;omega)
 case k37y h hs =>
  refine ⟨z,z1,fun x=>?_⟩
  unfold dm at x
  dsimp only at x
  exfalso
  rcases x with x | x | x | x | x | x | x <;> first | omega | exact x.2 hs
 case k37n h hs=>exact ⟨.inr rfl,fun _=>⟨.inr (.inr (.inr (.inr (.inr (.inl ⟨by omega,hs⟩))))),dm_no (by dsimp only;omega)⟩,key (dm_no (by dsimp only;omega))⟩
 case k38 h =>
  refine ⟨z,z1,fun x=>?_⟩
  unfold dm at x ⊢
  dsimp only at x
  split at x <;> (rcases x with x | x | x | x | x | x | x <;> first | exact .inr (.inr (.inr (.inr (.inr (.inl ⟨by omega,x.2⟩))))) | (exfalso;omega))
 case k39 h =>
  refine ⟨z,z1,fun x=>?_⟩
  unfold dm at x ⊢
  dsimp only at x
  rcases x with x | x | x | x | x | x | x <;> first | exact .inr (.inr (.inr (.inr (.inr (.inl ⟨by omega,x.2⟩))))) | (exfalso;omega)
 case k40a h hs =>
  refine ⟨z,z1,fun x=>?_⟩
  unfold dm at x ⊢
  dsimp only at x
  rcases x with x | x | x | x | x | x | x <;> first | exact .inr (.inr (.inr (.inr (.inr (.inl ⟨by omega,x.2⟩))))) | (exfalso;omega)
 case k40b h hs =>
  refine ⟨z,z1,fun x=>?_⟩
  unfold dm at x ⊢
  dsimp only at x
  rcases x with x | x | x | x | x | x | x <;> first | exact .inr (.inr (.inr (.inr (.inr (.inl ⟨by omega,x.2⟩))))) | (exfalso;omega)
 case k41 h =>
  refine ⟨z,z1,fun x=>?_⟩
  unfold dm at x ⊢
  dsimp only at x
  rcases x with x | x | x | x | x | x | x <;> first | exact .inr (.inr (.inr (.inr (.inr (.inl ⟨by omega,x.2⟩))))) | (exfalso;omega)
 case k42b h hs=>exact ⟨.inr rfl,fun _=>⟨.inr (.inr (.inr (.inr (.inr (.inl ⟨by omega,hs⟩))))),dm_no (by dsimp only;omega)⟩,key (dm_no (by dsimp only;omega))⟩
 case k60 h =>
  refine ⟨z,z1,fun x=>?_⟩
  unfold dm at x
  dsimp only at x
  exfalso
  rcases x with x | x | x | x | x | x | x <;> first | omega | exact x.2 rfl
 case k61b h hs=>exact ⟨.inr rfl,fun _=>⟨.inr (.inr (.inr (.inr (.inr (.inr ⟨h,hs⟩))))),dm_no (by dsimp only;omega)⟩,key (dm_no (by dsimp only;omega))⟩
 case k50b h hs=>exact ⟨z,z1,key (dm_no (by obtain ⟨h1,_⟩:=scnE_f (c:=c) (t:=T p) (f:=fndT (T p) (m.an (T p).pos.toNat));omega))⟩
 case k63 h=>exact ⟨z,z1,key (dm_no (by obtain ⟨h1,_⟩:=fin_f (c:=c) (t:=T p);omega))⟩
 all_goals first | exact ⟨z,z1,key (dm_no (by dsimp only;omega))⟩ | exact ⟨z,z1,key (dm_no (.inl (by show (0:Int)<2;omega)))⟩ | exact ⟨z,z1,key (dm_no (by show (50:Int)<2∨_;right;omega))⟩
end
def sm (r:Nat→Int):Nat→Int
 | 0=>0
 | n+1=>sm r n+r n
theorem sm_upd {r:Nat→Int} {p:Nat} {v:Int}:∀ {n:Nat},(p<n→sm (upd r p v) n=sm r n - r p+v)∧(n≤p→sm (upd r p v) n=sm r n)
 | 0=>⟨fun h=>absurd h (by omega),fun _=>rfl⟩
 | n+1=>by
   obtain ⟨h1,h2⟩:=@sm_upd r p v n
   constructor
   ·intro h
    unfold sm
    by_cases e:n=p
    ·subst e
     rw [upd_s,h2 (Nat.le_refl _)];omega
    ·rw [upd_n e,h1 (by omega)];omega
   ·intro h
    unfold sm
    rw [h2 (by omega),upd_n (by omega)]
theorem sm_le {r:Nat→Int} {C:Int}:∀ {n:Nat},(∀ q,q<n→r q≤C)→sm r n≤n*C
 | 0,_=>by simp [sm]
 | n+1,h=>by
   have h1:=sm_le (n:=n) (fun q hq=>h q (by omega))
   have h2:=h n (by omega)
   unfold sm
   rw [Int.natCast_add,Int.add_mul]
   omega
structure RT (s:Sta):Prop where
 ex:∃ r:Nat→Int,s.retries=sm r s.ths.length∧∀ q,q<s.ths.length→r q≤s.changes∧(dm (mm s) (s.th q)→r q+1≤s.changes)
 on:s.ths.length=1→s.retries=0∧¬dm (mm s) (s.th 0)
theorem RT.step {s:Sta} {p:Nat} {G G':Gh} {m':Mm} {t':Th} {dc dr:Int} (R0:RT s) (A:IA s.c (mm s) s.th G) (hp:p<s.ths.length) (hpt:(p:Int)<s.c.th) (T2:TV s.c (s.th p)) (S:SP s.c (mm s) G p (s.th p) m' t' G' dc dr) (R:RS s p m' t' dc dr):RT (stepV s p):=by
 obtain ⟨d1,d2⟩:=S.chg
 obtain ⟨o1,o2,o3⟩:=S.own A hpt T2
 have e1:=R.m
 have e2:=th_upd R.t hp
 have e4:(stepV s p).ths.length=s.ths.length:=by rw [R.t,List.length_set]
 obtain ⟨r,r1,r2⟩:=R0.ex
 constructor
 ·refine ⟨upd r p (r p+dr),?_,fun q hq=>?_⟩
  ·rw [R.rt,e4,sm_upd.1 hp,r1];omega
  ·rw [e4] at hq
   rw [e1,e2,R.ch]
   obtain ⟨a1,a2⟩:=r2 q hq
   by_cases e:q=p
   ·subst e
    rw [upd_s,upd_s]
    rcases o1 with o1 | o1
    ·refine ⟨by omega,fun x=>?_⟩
     have:=a2 (o3 x);omega
    ·obtain ⟨o4,o5⟩:=o2 o1
     have:=a2 o4
     exact ⟨by omega,fun x=>absurd x o5⟩
   ·rw [upd_n e,upd_n e]
    refine ⟨by omega,fun x=>?_⟩
    rcases d1 with d1 | d1
    ·obtain ⟨c1,c2,c3,c4⟩:=d2 d1
     have:=a2 (dm_same c1 c2 c3 c4 x);omega
    ·omega
 ·intro h1
  rw [e4] at h1
  obtain ⟨b1,b2⟩:=R0.on h1
  have hp0:p=0:=by omega
  subst hp0
  rw [R.rt,e1,e2,upd_s]
  refine ⟨?_,fun x=>b2 (o3 x)⟩
  rcases o1 with o1 | o1
  ·omega
  ·exact absurd (o2 o1).1 b2
theorem RT.start {s:Sta} {p:Nat} {o:Op3} {G G':Gh} (R0:RT s) (hp:p<s.ths.length) (S:BG s.gens s.c (s.th p) o p G (V8 s (s.th p) o) G'):RT (Y5 s p o):=by
 have e2:(Y5 s p o).th=upd s.th p (V8 s (s.th p) o):=th_upd (s:=s) rfl hp
 have e4:(Y5 s p o).ths.length=s.ths.length:=by unfold Y5;exact List.length_set
 have hn:¬dm (mm s) (V8 s (s.th p) o):=by
  generalize V8 s (s.th p) o=t' at S
  cases S with
  | no h=>exact dm_no (.inl (by show (0:Int)<2;omega))
  | one k h hk=>exact dm_no (by dsimp only;omega)
  | pop h hk hf=>exact dm_no (by dsimp only;omega)
 obtain ⟨r,r1,r2⟩:=R0.ex
 constructor
 ·refine ⟨r,by rw [e4];exact r1,fun q hq=>?_⟩
  rw [e4] at hq
  rw [e2]
  obtain ⟨a1,a2⟩:=r2 q hq
  refine ⟨a1,fun x=>?_⟩
  by_cases e:q=p
  ·subst e;rw [upd_s] at x;exact absurd x hn
  ·rw [upd_n e] at x;exact a2 x
 ·intro h1
  rw [e4] at h1
  obtain ⟨b1,b2⟩:=R0.on h1
  have hp0:p=0:=by omega
  subst hp0
  rw [e2,upd_s]
  exact ⟨b1,hn⟩
theorem RT.new {c:Cf} (hc:Yp c=true):RT (Za c):=by
 have hth:∀ q:Nat,q<(Za c).ths.length→(Za c).th q=th0:=fun q hq=>by
  have:(Za c).ths.length=c.th.toNat:=by simp [Za]
  unfold Sta.th Za
  dsimp only
  rw [List.getD_eq_getElem?_getD,List.getElem?_replicate,if_pos (by omega)]
  rfl
 have hd:¬dm (mm (Za c)) th0:=dm_no (.inl (by show (0:Int)<2;omega))
 have hz:∀ n,sm (fun _=>0) n=0:=fun n=>by
  induction n with
  | zero=>rfl
  | succ n ih=>unfold sm;rw [ih];rfl
 constructor
 ·refine ⟨fun _=>0,by rw [hz];rfl,fun q hq=>?_⟩
  rw [hth q hq]
  exact ⟨Int.le_refl _,fun x=>absurd x hd⟩
 ·intro h
  rw [hth 0 (by omega)]
  exact ⟨rfl,hd⟩
theorem RT.le {s:Sta} (R0:RT s):s.retries≤s.ths.length*s.changes:=by
 obtain ⟨r,r1,r2⟩:=R0.ex
 rw [r1]
 exact sm_le (fun q hq=>(r2 q hq).1)
end
noncomputable section
theorem SF.mono {s:Sta} {G:Gh} {N N':Nat} (F:SF s G N) (h:N≤N'):SF s G N':=⟨F.a,F.b,fun i hi=>by have:=F.n i hi;omega⟩
structure OS (m:Mac) (k:Nat):Prop where
 ex:∃ G,SF m.s G k
 rt:RT m.s
 fl:m.s.faults=0
theorem OS.pick {m:Mac} {p k:Nat} (M:MI m) (O:OS m k) (hp:p<m.s.ths.length) (hk:k≤9998):OS (Um m p) (k+1):=by
 obtain ⟨⟨G,F⟩,R,fl⟩:=O
 have hpt:(p:Int)<m.s.c.th:=by have:=M.si.cv.lt;omega
 have hn:cntE p m.evs≤100:=Nat.le_trans Xv8 (by have:=M.el;omega)
 unfold Um
 by_cases h0:(m.s.th p).pc≠0
 ·rw [if_pos h0]
  obtain ⟨m',t',G',dc,dr,S,R1,A',B',F'⟩:=F.sp M.si hp hn h0 hk
  exact ⟨⟨G',F'.mono (Nat.le_succ k)⟩,R.step F.a hp hpt (M.si.tv p hp).1 S R1,R1.f.trans fl⟩
 ·rw [if_neg h0]
  have h1:(m.s.th p).pc=0:=Classical.byContradiction h0
  obtain ⟨G',S,A',F'⟩:=F.bg M.si hp h1 (opAt m p)
  exact ⟨⟨G',F'⟩,R.start hp S,fl⟩
theorem OS.new {c:Cf} {ps:List (List Op3)} (hc:Yp c=true):OS (Uf c ps) 0:=⟨⟨_,SF.new hc⟩,RT.new hc,rfl⟩
end
end Go.Proofs.YtbploohjimpcaaaGreat.A
