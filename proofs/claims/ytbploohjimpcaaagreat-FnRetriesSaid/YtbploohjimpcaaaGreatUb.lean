/- What the program's functions answer (Ub): no condition. -/
import Derived.Test.YtbploohjimpcaaaGreatUa
set_option linter.unusedVariables false
set_option linter.unusedSimpArgs false
namespace Go.Proofs.YtbploohjimpcaaaGreat.A
open Go Go.Abs
set_option maxRecDepth 100000
noncomputable section
variable {c:Cf} {m:Mm} {T:Nat→Th} {G:Gh} {p:Nat}
theorem Ch.congr {m m':Mm}:∀ {L:List Nat} {v:Int},(∀ i∈L,hl m'.gn i=hl m.gn i)→(∀ i∈L,unmk (m'.ol i)=unmk (m.ol i))→Ch m v L→Ch m' v L
 | [],_,_,_,h=>h
 | a::L,v,h1,h2,h=>⟨by rw [h1 a (by simp)];exact h.1,by rw [h2 a (by simp)];exact Ch.congr (fun i hi=>h1 i (by simp [hi])) (fun i hi=>h2 i (by simp [hi])) h.2⟩
theorem TA.own {i q:Nat} {o:Ow} {t:Th} (H:TA c m T G q t) (h1:G.ow i≠.fr q∧G.ow i≠.pr q∧G.ow i≠.rt q) (h2:o≠.fr q∧o≠.pr q∧o≠.rt q):TA c m T {G with ow:=upd G.ow i o} q t:=by
 have key:∀ j o',(o'=.fr q∨o'=.pr q∨o'=.rt q)→(upd G.ow i o j=o'↔G.ow j=o'):=by
  intro j o' ho
  by_cases e:j=i
  ·subst e
   rw [upd_s]
   rcases ho with rfl | rfl | rfl
   ·exact ⟨fun x=>absurd x h2.1,fun x=>absurd x h1.1⟩
   ·exact ⟨fun x=>absurd x h2.2.1,fun x=>absurd x h1.2.1⟩
   ·exact ⟨fun x=>absurd x h2.2.2,fun x=>absurd x h1.2.2⟩
  ·rw [upd_n e]
 obtain ⟨a1,a2,a3,a4,a5,a6,a7,a8,a9,a10,a11,a12,a13,a14,a15,b1,b2,b3,b4,b5,b6,a18,a19,a20,a21⟩:=H
 refine ⟨a1,fun x hx=>?_,fun j hj ho=>a3 j hj ((key j _ (.inl rfl)).1 ho),fun x=>?_,fun j hj ho=>a5 j hj ((key j _ (.inr (.inl rfl))).1 ho),a6,fun x hx=>?_,fun j hj ho=>a8 j hj ((key j _ (.inr (.inr rfl))).1 ho),a9,a10,a11,a12,a13,a14,a15,b1,b2,b3,b4,b5,b6,a18,a19,a20,a21⟩
 ·obtain ⟨j,h3,h4,h5⟩:=a2 x hx;exact ⟨j,h3,h4,(key j _ (.inl rfl)).2 h5⟩
 ·obtain ⟨j,h3,h4,h5,h6⟩:=a4 x;exact ⟨j,h3,h4,h5,(key j _ (.inr (.inl rfl))).2 h6⟩
 ·obtain ⟨j,h3,h4,h5,h6⟩:=a7 x hx;exact ⟨j,h3,h4,h5,(key j _ (.inr (.inr rfl))).2 h6⟩
theorem GA.take {i:Nat} (g:GA c m G) (hi:(i:Int)<c.cap) (hp:(p:Int)<c.th) (m':Mm) (e1:m'.gn=m.gn) (e2:m'.ol=m.ol) (e3:m'.hd=m.hd) (h:(G.ow i=.un∧m.ar=i∧m'.ar=m.ar+1)∨((∃ q,G.ow i=.fr q)∧m'.ar=m.ar)):GA c m' {G with ow:=upd G.ow i (.pr p)}:=by
 have g':=g.reg (m':={m' with ar:=m.ar}) e1 e2 e3 rfl
 have hno:∀ k,G.ow i≠.hd k:=by rcases h with ⟨h,_⟩ | ⟨⟨q,h⟩,_⟩ <;> (intro k e;rw [h] at e;cases e)
 have hno2:∀ q,G.ow i≠.rt q:=by rcases h with ⟨h,_⟩ | ⟨⟨q,h⟩,_⟩ <;> (intro k e;rw [h] at e;cases e)
 have hhd:∀ j k,(upd G.ow i (.pr p) j=.hd k↔G.ow j=.hd k):=by
  intro j k
  by_cases e:j=i
  ·subst e;rw [upd_s];exact ⟨fun x=>(by cases x),fun x=>absurd x (hno k)⟩
  ·rw [upd_n e]
 have hrt:∀ j k,(upd G.ow i (.pr p) j=.rt k↔G.ow j=.rt k):=by
  intro j k
  by_cases e:j=i
  ·subst e;rw [upd_s];exact ⟨fun x=>(by cases x),fun x=>absurd x (hno2 k)⟩
  ·rw [upd_n e]
 have hfr:∀ j k,upd G.ow i (.pr p) j=.fr k→G.ow j=.fr k:=by
  intro j k x
  by_cases e:j=i
  ·subst e;rw [upd_s] at x;cases x
  ·rwa [upd_n e] at x
 refine ⟨g'.gn,fun k hk=>by rw [e3];exact Ch.congr (m:=m) (fun _ _=>by unfold hl;rw [e1]) (fun _ _=>by rw [e2]) (g.ch k hk),g'.lp,g'.pk,g'.pl,g'.so,g'.sx,fun k j hk hj=>⟨(hhd j k).2 (g'.oh k j hk hj).1,(g'.oh k j hk hj).2⟩,fun k j hj ho=>g'.ho k j hj ((hhd j k).1 ho),fun j hj=>?_,fun j q hj ho=>g'.of j q hj (hfr j q ho),fun j q hj ho=>?_,fun j q hj ho=>g'.or j q hj ((hrt j q).1 ho),g'.si,fun j hj=>?_,?_⟩
 ·have h1:=g.o1 j hj
  have h2:=g.o1 i hi
  by_cases e:j=i
  ·subst e
   dsimp only
   rw [upd_s]
   refine ⟨fun x=>(by cases x),fun x=>?_⟩
   rcases h with ⟨_,h3,h4⟩ | ⟨⟨q,h3⟩,h4⟩
   ·omega
   ·have:=h2.2 (by omega);rw [h3] at this;cases this
  ·dsimp only
   rw [upd_n e,h1]
   rcases h with ⟨_,h3,h4⟩ | ⟨⟨q,h3⟩,h4⟩ <;> omega
 ·by_cases e:j=i
  ·subst e;dsimp only at ho;rw [upd_s] at ho;injection ho with ho;rw [←ho];exact hp
  ·dsimp only at ho;rw [upd_n e] at ho;exact g.op j q hj ho
 ·simp only [hhd,hrt];exact g.ob j hj
 ·have:=g.a0
  rcases h with ⟨_,h3,h4⟩ | ⟨_,h4⟩ <;> omega
theorem TA.of {m m':Mm} {T T':Nat→Th} {q:Nat} {t:Th} (H:TA c m T G q t) (e1:m'.gn=m.gn) (e2:m'.ol=m.ol) (e3:m'.hz=m.hz) (e4:T'=T):TA c m' T' G q t:=by
 subst e4
 have hm:∀ i,mkd m' i=mkd m i:=fun i=>by unfold mkd;rw [e2]
 obtain ⟨a1,a2,a3,a4,a5,a6,a7,a8,a9,a10,a11,a12,a13,a14,a15,b1,b2,b3,b4,b5,b6,a18,a19,a20,a21⟩:=H
 have hG:∀ {j h k},Gd c m T' G q j h k→Gd c m' T' G q j h k:=fun x=>⟨by rw [e1];exact x.1,by rw [e3];exact x.2.1,x.2.2⟩
 refine ⟨a1,a2,a3,by rw [e1];exact a4,by rw [e1];exact a5,a6,by rw [e1];exact a7,by rw [e1];exact a8,?_,?_,?_,a12,a13,a14,by rw [e2];exact a15,fun x=>hG (b1 x),fun x y=>hG (b2 x y),fun x y=>hG (b3 x y),fun x=>hG (b4 x),by rw [e3];exact b5,by rw [e3];exact b6,a18,by rw [e2];exact a19,a20,a21⟩
 ·simp only [hm];exact a9
 ·simp only [hm];exact a10
 ·simp only [hm];exact a11
theorem TA.got {m':Mm} {T':Nat→Th} {t:Th} {i:Nat} (H:TA c m T G p t) (hi:(i:Int)<c.cap) (hg:i<63∧0≤m.gn i∧m.gn i≤9998) (t':Th) (e1:m'.gn=m.gn) (e2:m'.ol=m.ol) (ha:t.pc=0∨t.pc=31) (h':t'.pc=32) (hn:t'.node=hl m.gn i) (ho:t'.op.k≠2)
 (hf1:t'.free.Nodup) (hf2:∀ x∈t'.free,x∈t.free∧x≠i) (hf3:∀ x∈t.free,x≠i→x∈t'.free) (hno:G.ow i≠.rt p)
 (hb:t'.buf=t.buf:=by rfl) (hw:t'.work=t.work:=by rfl) (hl2:t'.limbo=t.limbo:=by rfl):TA c m' T' {G with ow:=upd G.ow i (.pr p)} p t':=by
 have hm:∀ i,mkd m' i=mkd m i:=fun i=>by unfold mkd;rw [e2]
 have hp:pend t'=pend t:=by rw [pend_no (by omega),pend_no (by omega)]
 have hk:¬wlk t'∧¬wlk t:=by
  unfold wlk
  constructor
  ·intro x;omega
  ·intro x;omega
 have hk2:wlk t'↔wlk t:=⟨fun x=>absurd x hk.1,fun x=>absurd x hk.2⟩
 have hrt:∀ j,(upd G.ow i (.pr p) j=.rt p↔G.ow j=.rt p):=by
  intro j
  by_cases e:j=i
  ·subst e;rw [upd_s];exact ⟨fun x=>(by cases x),fun x=>absurd x hno⟩
  ·rw [upd_n e]
 refine ⟨hf1,fun x hx=>?_,fun j hj hoj=>?_,fun _=>⟨i,hi,by rw [hn,e1],by rw [hn];exact hl_ix hg.1 ⟨hg.2.1,by omega⟩,upd_s⟩,fun j hj hoj=>?_,by rw [Rt_eq hp hb hw hl2];exact H.r1,fun h hh=>?_,fun j hj hoj=>?_,?_,fun x=>absurd x hk.1,?_,fun x=>absurd x hk.1,fun x=>absurd x hk.1,fun x=>by omega,fun x=>by omega,fun x=>by omega,fun x=>by omega,fun x=>by omega,fun x=>by omega,fun x=>by omega,fun x=>by omega,fun x=>by omega,fun x=>by omega,fun x=>by omega,fun _=>ho⟩
 ·obtain ⟨j,h1,h2,h3⟩:=H.f2 x (hf2 x hx).1
  refine ⟨j,h1,h2,?_⟩
  dsimp only
  rw [upd_n (fun e=>(hf2 x hx).2 (by rw [h2,e]))];exact h3
 ·by_cases e:j=i
  ·subst e;dsimp only at hoj;rw [upd_s] at hoj;cases hoj
  ·dsimp only at hoj
   rw [upd_n e] at hoj
   exact hf3 _ (H.f3 j hj hoj) (by omega)
 ·by_cases e:j=i
  ·subst e;exact ⟨by omega,by rw [hn,e1]⟩
  ·dsimp only at hoj
   rw [upd_n e] at hoj
   have:=(H.p3 j hj hoj).1;omega
 ·rw [Rt_eq hp hb hw hl2] at hh
  obtain ⟨j,h1,h2,h3,h4⟩:=H.r2 h hh
  exact ⟨j,h1,by rw [e1];exact h2,h3,(hrt j).2 h4⟩
 ·rw [Rt_eq hp hb hw hl2,e1]
  exact H.r3 j hj ((hrt j).1 hoj)
 ·rw [LKs_eq hp hb hw hk2];simp only [hm];exact H.lk
 ·rw [hl2];simp only [hm];exact H.lm
theorem ia31 (A:IA c m T G) (hp:(p:Int)<c.th) (h:(T p).pc=31) (hs:m.ar=(T p).seen) (hlt:m.ar<c.cap) :
 IA c {m with ar:=(T p).seen+1} (upd T p {T p with node:=mkH (T p).seen (m.gn (T p).seen.toNat),pc:=32}) {G with ow:=upd G.ow (T p).seen.toNat (.pr p)}:=by
 have H:=A.t p hp
 have h0:=A.g.a0
 have hi:(((T p).seen.toNat:Nat):Int)<c.cap:=by omega
 have hgn:=A.g.gn _ hi
 have hun:=(A.g.o1 _ hi).2 (by omega)
 have he:(((T p).seen.toNat:Nat):Int)=(T p).seen:=by omega
 have hnode:mkH (T p).seen (m.gn (T p).seen.toNat)=hl m.gn (T p).seen.toNat:=by
  have:=hl_mkH (g:=m.gn) hgn.1 ⟨hgn.2.1,by omega⟩
  rwa [he] at this
 refine ⟨A.g.take hi hp _ rfl rfl rfl (.inl ⟨hun,by omega,by dsimp only;omega⟩),fun q hq=>?_⟩
 by_cases e:q=p
 ·subst e
  rw [upd_s]
  refine H.got (m':={m with ar:=(T q).seen+1}) hi hgn _ rfl rfl (.inr h) rfl hnode (H.nr (by omega)) H.f1 (fun x hx=>⟨hx,fun e=>?_⟩) (fun x hx _=>hx) (by rw [hun];intro e;cases e)
  obtain ⟨j,h1,h2,h3⟩:=H.f2 x hx
  rw [show j=(T q).seen.toNat by omega,hun] at h3
  cases h3
 ·rw [upd_n e]
  have:=(A.t q hq).reg (p:=p) (t':={T p with node:=mkH (T p).seen (m.gn (T p).seen.toNat),pc:=32}) A.g hp (.no (by dsimp only;omega)) (m':={m with ar:=(T p).seen+1}) rfl rfl (fun _ _=>rfl)
  refine this.own (by rw [hun];exact ⟨fun x=>(by cases x),fun x=>(by cases x),fun x=>(by cases x)⟩) ⟨fun x=>(by cases x),fun x=>?_,fun x=>(by cases x)⟩
  injection x with x
  exact e x.symm
theorem IA.old {i:Nat} {v:Int} (A:IA c m T G) (hp:(p:Int)<c.th) (hi:(i:Int)<c.cap) (ho:G.ow i=.pr p) (hpc:(T p).pc≠42):IA c {m with ol:=upd m.ol i v} T G:=by
 have hpb:=pb_no A.g hi (by rw [ho];intro k e;cases e) (by rw [ho];intro k e;cases e)
 have hne:∀ j k,G.pb j=some k→j≠i:=fun j k h e=>by rw [e,hpb] at h;cases h
 have hol:∀ j,j≠i→upd m.ol i v j=m.ol j:=fun j h=>upd_n h
 have hm:∀ j,j≠i→mkd {m with ol:=upd m.ol i v} j=mkd m j:=fun j h=>by unfold mkd;dsimp only;rw [hol j h]
 refine ⟨⟨A.g.gn,fun k hk=>?_,A.g.lp,A.g.pk,fun j k h=>?_,A.g.so,A.g.sx,fun k j hk h=>?_,A.g.ho,A.g.o1,A.g.of,A.g.op,A.g.or,A.g.si,A.g.ob,A.g.a0⟩,fun q hq=>?_⟩
 ·exact Ch.congr (m:=m) (fun _ _=>rfl) (fun j hj=>by dsimp only;rw [hol j (hne j k (A.g.lp k hk j hj))]) (A.g.ch k hk)
 ·rw [hm j (hne j k h)];exact A.g.pl j k h
 ·have:=A.g.oh k j hk h
  rw [hm j (fun e=>by rw [e,ho] at this;cases this.1)];exact this
 ·have H:=A.t q hq
  have hr:∀ h∈Rt (T q),ix h≠i:=fun h hh e=>by
   obtain ⟨j,_,_,h3,h4⟩:=H.r2 h hh
   rw [←h3,e,ho] at h4;cases h4
  refine ⟨H.f1,H.f2,H.f3,H.p2,H.p3,H.r1,H.r2,H.r3,fun x hx=>?_,fun x=>?_,fun h hh=>?_,H.w1,H.w2,H.w3,fun x=>?_,H.g0,H.gp,H.gc,H.gn,H.z0,H.z1,H.nz,fun x=>?_,H.rd,H.nr⟩
  ·rw [hm _ (hr _ (LKs_Rt hx))];exact H.lk x hx
  ·have:=H.wm x
   rw [hm _ (hne _ _ this.2.2)];exact this
  ·rw [hm _ (hr _ (Rt_limbo hh))];exact H.lm h hh
  ·obtain ⟨⟨j,_,_,h3,h4⟩,_⟩:=H.g0 (by omega)
   dsimp only
   rw [hol _ (by rw [h3];exact hne _ _ h4)];exact H.w4 x
  ·dsimp only
   obtain ⟨j,h1,h2,h3,h4⟩:=H.p2 (by omega)
   rw [hol _ (fun e=>?_)]
   ·exact H.pu x
   ·rw [←h3,e,ho] at h4
    injection h4 with h4
    exact hpc (by rw [h4];exact x)
end
noncomputable section
variable {c:Cf} {m:Mm} {T:Nat→Th} {G:Gh} {p:Nat}
def pubG (G:Gh) (k i p:Nat) (ck:Int):Gh:={ls:=upd G.ls k (i::G.ls k),sq:=upd G.sq i G.nx,nx:=G.nx+1,pb:=upd G.pb i (some k),ow:=fun x=>if x=i then .hd k else if (G.ls k).head?=some x then .rt p else G.ow x,lo:=upd G.lo i ck,hi:=upd G.hi i 0,su:=fun x=>if x=i then i else if (G.ls k).head?=some x then i else G.su x}
theorem ia42 (A:IA c m T G) (hp:(p:Int)<c.th) (T2:TV c (T p)) (h:(T p).pc=42) (hs:m.hd (ok (T p))=(T p).curr) :
 IA c {m with hd:=upd m.hd (ok (T p)) (T p).node} (upd T p {T p with pc:=43}) (pubG G (ok (T p)) (ix (T p).node) p m.ck):=by
 have H:=A.t p hp
 have hk:=ok_lt T2 (by omega)
 obtain ⟨i,hi,e1,e2,e3⟩:=H.p2 (by omega)
 have hpu:=H.pu h
 rw [e2] at hpu ⊢
 obtain ⟨k,hkd⟩:∃ k,k=ok (T p):=⟨_,rfl⟩
 rw [←hkd] at hk hs ⊢
 have hpb:=pb_no A.g hi (by rw [e3];intro k e;cases e) (by rw [e3];intro k e;cases e)
 have hne:∀ j k',G.pb j=some k'→j≠i:=fun j k' h e=>by rw [e,hpb] at h;cases h
 have hin:∀ k':Nat,(k':Int)<c.keys→i ∉ G.ls k':=fun k' hk' hx=>hne i k' (A.g.lp k' hk' i hx) rfl
 have hls:∀ k' j,(j∈(pubG G k i p m.ck).ls k'↔(k'=k∧j=i)∨j∈G.ls k'):=by
  intro k' j
  unfold pubG
  dsimp only
  by_cases e:k'=k
  ·subst e;rw [upd_s];simp
  ·rw [upd_n e];simp [e]
 have hsq:∀ j,j≠i→(pubG G k i p m.ck).sq j=G.sq j:=fun j hj=>upd_n hj
 have hsqi:(pubG G k i p m.ck).sq i=G.nx:=upd_s
 have hsqle:∀ j,G.sq j≤(pubG G k i p m.ck).sq j:=fun j=>by
  by_cases e:j=i
  ·rw [e,hsqi];exact Nat.le_of_lt (A.g.sx i)
  ·rw [hsq j e];exact Nat.le_refl _
 have hsqn:∀ h,sqn G h≤sqn (pubG G k i p m.ck) h:=fun h=>by
  unfold sqn;split
  ·exact Nat.le_refl _
  ·exact hsqle _
 have hpbn:∀ j,j≠i→(pubG G k i p m.ck).pb j=G.pb j:=fun j hj=>upd_n hj
 have hpbi:(pubG G k i p m.ck).pb i=some k:=upd_s
 have hhead:∀ x,(G.ls k).head?=some x→G.ow x=.hd k∧¬mkd m x:=fun x hx=>A.g.oh k x hk hx
 have howi:(pubG G k i p m.ck).ow i=.hd k:=if_pos rfl
 have hown:∀ x,x≠i→(G.ls k).head?≠some x→(pubG G k i p m.ck).ow x=G.ow x:=fun x h1 h2=>by unfold pubG;dsimp only;rw [if_neg h1,if_neg h2]
 have howh:∀ x,(G.ls k).head?=some x→(pubG G k i p m.ck).ow x=.rt p:=fun x hx=>by
  unfold pubG;dsimp only
  rw [if_neg (fun e=>by have:=(hhead x hx).1;rw [e,e3] at this;cases this),if_pos hx]
 have hni:∀ x,(G.ls k).head?=some x→x≠i:=fun x hx e=>by have:=(hhead x hx).1;rw [e,e3] at this;cases this
 have hfr:∀ x q,((pubG G k i p m.ck).ow x=.fr q↔G.ow x=.fr q):=fun x q=>by
  by_cases e:x=i
  ·rw [e,howi,e3];exact ⟨fun y=>(by cases y),fun y=>(by cases y)⟩
  ·by_cases e':(G.ls k).head?=some x
   ·rw [howh x e',(hhead x e').1];exact ⟨fun y=>(by cases y),fun y=>(by cases y)⟩
   ·rw [hown x e e']
 have hpr:∀ x q,((pubG G k i p m.ck).ow x=.pr q↔(G.ow x=.pr q∧x≠i)):=fun x q=>by
  by_cases e:x=i
  ·rw [e,howi];exact ⟨fun y=>(by cases y),fun y=>absurd rfl y.2⟩
  ·by_cases e':(G.ls k).head?=some x
   ·rw [howh x e',(hhead x e').1];exact ⟨fun y=>(by cases y),fun y=>(by cases y.1)⟩
   ·rw [hown x e e'];exact ⟨fun y=>⟨y,e⟩,fun y=>y.1⟩
 have hrt:∀ x q,((pubG G k i p m.ck).ow x=.rt q↔(G.ow x=.rt q∨(q=p∧(G.ls k).head?=some x))):=fun x q=>by
  by_cases e:x=i
  ·rw [e,howi,e3];exact ⟨fun y=>(by cases y),fun y=>by rcases y with y | y;cases y;exact absurd rfl (hni i y.2)⟩
  ·by_cases e':(G.ls k).head?=some x
   ·rw [howh x e',(hhead x e').1]
    exact ⟨fun y=>by injection y with y;exact .inr ⟨y.symm,e'⟩,fun y=>by rcases y with y | y;cases y;rw [y.1]⟩
   ·rw [hown x e e'];exact ⟨.inl,fun y=>y.resolve_right fun z=>e' z.2⟩
 have hhd:∀ x k',((pubG G k i p m.ck).ow x=.hd k'↔(k'=k∧x=i)∨(k'≠k∧G.ow x=.hd k')∨(k'=k∧G.ow x=.hd k∧(G.ls k).head?≠some x)):=fun x k'=>by
  by_cases e:x=i
  ·rw [e,howi,e3]
   exact ⟨fun y=>by injection y with y;exact .inl ⟨y.symm,rfl⟩,fun y=>by rcases y with y | y | y;rw [y.1];cases y.2;cases y.2.1⟩
  ·by_cases e':(G.ls k).head?=some x
   ·rw [howh x e',(hhead x e').1]
    exact ⟨fun y=>(by cases y),fun y=>by rcases y with y | y | y;exact absurd y.2 e;injection y.2 with z;exact absurd z.symm y.1;exact absurd e' y.2.2⟩
   ·rw [hown x e e']
    refine ⟨fun y=>?_,fun y=>?_⟩
    ·by_cases ek:k'=k
     ·subst ek;exact .inr (.inr ⟨rfl,y,e'⟩)
     ·exact .inr (.inl ⟨ek,y⟩)
    ·rcases y with y | y | y
     ·exact absurd y.2 e
     ·exact y.2
     ·rw [y.1];exact y.2.1
 have hcu:unmk (T p).curr=(T p).curr:=X2o T2.cr
 have hlsk:(pubG G k i p m.ck).ls k=i::G.ls k:=upd_s
 have hlsn:∀ k',k'≠k→(pubG G k i p m.ck).ls k'=G.ls k':=fun k' h=>upd_n h
 refine ⟨⟨A.g.gn,fun k' hk'=>?_,fun k' hk' j hj=>?_,fun j k' hj=>?_,fun j k' hj=>?_,fun k' hk'=>?_,fun j=>?_,fun k' j hk' hj=>?_,fun k' j hj ho=>?_,fun j hj=>?_,fun j q hj ho=>A.g.of j q hj ((hfr j q).1 ho),fun j q hj ho=>A.g.op j q hj ((hpr j q).1 ho).1,fun j q hj ho=>?_,fun j j' h1 h2 h3=>?_,fun j hj=>?_,A.g.a0⟩,fun q hq=>?_⟩
 ·by_cases e:k'=k
  ·subst e
   rw [hlsk]
   dsimp only
   rw [upd_s,e1]
   refine ⟨rfl,?_⟩
   dsimp only
   rw [hpu,hcu,←hs]
   exact Ch.congr (m:=m) (fun _ _=>rfl) (fun _ _=>rfl) (A.g.ch k' hk')
  ·rw [hlsn k' e]
   dsimp only
   rw [upd_n e]
   exact Ch.congr (m:=m) (fun _ _=>rfl) (fun _ _=>rfl) (A.g.ch k' hk')
 ·rcases (hls k' j).1 hj with ⟨a1,a2⟩ | hj
  ·rw [a2,hpbi,a1]
  ·rw [hpbn j (fun e=>hin k' hk' (by rw [←e];exact hj))];exact A.g.lp k' hk' j hj
 ·by_cases e:j=i
  ·subst e
   rw [hpbi] at hj
   injection hj with hj
   rw [←hj,hsqi]
   exact ⟨hi,hk,by have:=A.g.sx j;omega⟩
  ·rw [hpbn j e] at hj;rw [hsq j e];exact A.g.pk j k' hj
 ·by_cases e:j=i
  ·subst e
   rw [hpbi] at hj
   injection hj with hj
   exact .inl ((hls _ _).2 (.inl ⟨hj.symm,rfl⟩))
  ·rw [hpbn j e] at hj
   exact (A.g.pl j k' hj).imp (fun x=>(hls _ _).2 (.inr x)) (fun x=>x)
 ·have hold:(G.ls k').Pairwise fun x y=>(pubG G k i p m.ck).sq y<(pubG G k i p m.ck).sq x:=by
   refine (A.g.so k' hk').imp_of_mem fun {a b} ha hb hab=>?_
   rw [hsq a (fun e=>hin k' hk' (by rw [←e];exact ha)),hsq b (fun e=>hin k' hk' (by rw [←e];exact hb))];exact hab
  by_cases e:k'=k
  ·subst e
   rw [hlsk]
   refine List.pairwise_cons.2 ⟨fun x hx=>?_,hold⟩
   rw [hsqi,hsq x (fun e=>hin k' hk' (by rw [←e];exact hx))]
   exact A.g.sx x
  ·rw [hlsn k' e];exact hold
 ·by_cases e:j=i
  ·rw [e,hsqi];exact Nat.lt_succ_self _
  ·rw [hsq j e];exact Nat.lt_succ_of_lt (A.g.sx j)
 ·by_cases e:k'=k
  ·subst e
   rw [hlsk] at hj
   simp only [List.head?_cons,Option.some.injEq] at hj
   subst hj
   refine ⟨howi,?_⟩
   unfold mkd
   dsimp only
   rw [hpu,lnk_mk T2.cr];simp
  ·rw [hlsn k' e] at hj
   obtain ⟨h1,h2⟩:=A.g.oh k' j hk' hj
   refine ⟨(hhd j k').2 (.inr (.inl ⟨e,h1⟩)),h2⟩
 ·rcases (hhd j k').1 ho with ⟨a1,a2⟩ | ⟨a1,a2⟩ | ⟨a1,a2,a3⟩
  ·rw [a1,hlsk,a2];exact ⟨hk,rfl⟩
  ·rw [hlsn k' a1];exact A.g.ho k' j hj a2
  ·exact absurd (A.g.ho k j hj a2).2 a3
 ·dsimp only
  rw [←A.g.o1 j hj]
  by_cases e:j=i
  ·rw [e,howi,e3];exact ⟨fun y=>(by cases y),fun y=>(by cases y)⟩
  ·by_cases e':(G.ls k).head?=some j
   ·rw [howh j e',(hhead j e').1];exact ⟨fun y=>(by cases y),fun y=>(by cases y)⟩
   ·rw [hown j e e']
 ·rcases (hrt j q).1 ho with h1 | ⟨h1,_⟩
  ·exact A.g.or j q hj h1
  ·rw [h1];exact hp
 ·by_cases ej:j=i
  ·by_cases ej':j'=i
   ·rw [ej,ej']
   ·rw [ej,hsqi,hsq j' ej'] at h3;have:=A.g.sx j';omega
  ·by_cases ej':j'=i
   ·rw [ej',hsqi,hsq j ej] at h3;have:=A.g.sx j;omega
   ·rw [hpbn j ej] at h1;rw [hpbn j' ej'] at h2;rw [hsq j ej,hsq j' ej'] at h3
    exact A.g.si j j' h1 h2 h3
 ·by_cases e:j=i
  ·rw [e,hpbi,howi];exact ⟨fun _=>.inl ⟨k,rfl⟩,fun _=>by simp⟩
  ·rw [hpbn j e,A.g.ob j hj]
   by_cases e':(G.ls k).head?=some j
   ·rw [howh j e',(hhead j e').1];exact ⟨fun _=>.inr ⟨p,rfl⟩,fun _=>.inl ⟨k,rfl⟩⟩
   ·rw [hown j e e']
 ·have hGd:∀ {q' j h k' t'},t'.pc=43→Gd c m T G q' j h k'→Gd c {m with hd:=upd m.hd k (T p).node} (upd T p t') (pubG G k i p m.ck) q' j h k':=by
   intro q' j h k' t' ht g
   obtain ⟨⟨x,h1,h2,h3,h4⟩,h5,h6⟩:=g.to (m':={m with hd:=upd m.hd k (T p).node}) A.g hp (.no (t':=t') (by omega)) rfl rfl
   exact ⟨⟨x,h1,h2,h3,by rw [hpbn x (hne _ _ h4)];exact h4⟩,h5,h6⟩
  by_cases e:q=p
  ·subst e
   rw [upd_s]
   have hRt:Rt {T q with pc:=43}=(if (T q).curr≠0 then [(T q).curr] else [])++Rt (T q):=by
    unfold Rt
    rw [pend_no (t:=T q) (by omega)]
    unfold pend
    dsimp only
    by_cases hc0:(T q).curr=0
    ·rw [if_neg (fun x=>x.2.2 hc0),if_neg (fun x=>x hc0)];rfl
    ·rw [if_pos ⟨by omega,by omega,hc0⟩,if_pos hc0];rfl
   have hcur:(T q).curr≠0→∃ x:Nat,(x:Int)<c.cap∧(G.ls k).head?=some x∧(T q).curr=hl m.gn x∧ix (T q).curr=x:=by
    intro hc0
    have hch:=A.g.ch k hk
    rw [hs] at hch
    obtain ⟨x,B,h1,h2⟩:=hch.hd hc0
    have hx:=ls_cap A.g hk (i:=x) (by rw [h1];simp)
    exact ⟨x,hx,by rw [h1];rfl,h2,by rw [h2];exact A.g.ixh hx⟩
   refine ⟨H.f1,fun x hx=>?_,fun x hx ho=>H.f3 x hx ((hfr x q).1 ho),fun x=>by dsimp only at x;omega,fun x hx ho=>?_,?_,fun h' hh=>?_,fun x hx ho=>?_,fun x hx=>?_,fun x=>absurd x.2.1 (by dsimp only;omega),fun h' hh=>?_,fun x=>absurd x.2.1 (by dsimp only;omega),fun x=>absurd x.2.1 (by dsimp only;omega),?_,?_,?_,?_,?_,fun _=>?_,?_,?_,?_,?_,?_,fun _=>H.nr (by omega)⟩
   ·obtain ⟨j,h1,h2,h3⟩:=H.f2 x hx;exact ⟨j,h1,h2,(hfr j q).2 h3⟩
   ·obtain ⟨h1,h2⟩:=(hpr x q).1 ho
    obtain ⟨_,h3⟩:=H.p3 x hx h1
    exact absurd (hl_inj (A.g.gn x hx).1 (A.g.gn i hi).1 (h3.symm.trans e1)) h2
   ·rw [hRt]
    by_cases hc0:(T q).curr=0
    ·rw [if_neg (fun x=>x hc0)];exact H.r1
    ·rw [if_pos hc0]
     refine List.nodup_cons.2 ⟨fun hm=>?_,H.r1⟩
     obtain ⟨x,_,hx1,_,hx2⟩:=hcur hc0
     obtain ⟨j,_,_,h3,h4⟩:=H.r2 _ hm
     rw [hx2] at h3
     rw [←h3,(hhead x hx1).1] at h4
     cases h4
   ·rw [hRt] at hh
    rcases List.mem_append.1 hh with hh | hh
    ·by_cases hc0:(T q).curr=0
     ·rw [if_neg (fun x=>x hc0)] at hh;simp at hh
     ·rw [if_pos hc0] at hh
      obtain ⟨x,hxc,hx1,hx2,hx3⟩:=hcur hc0
      rw [List.mem_singleton.1 hh]
      exact ⟨x,hxc,hx2,hx3,(hrt x q).2 (.inr ⟨rfl,hx1⟩)⟩
    ·obtain ⟨j,h1,h2,h3,h4⟩:=H.r2 _ hh
     exact ⟨j,h1,h2,h3,(hrt j q).2 (.inl h4)⟩
   ·rw [hRt]
    rcases (hrt x q).1 ho with h1 | ⟨_,h1⟩
    ·exact List.mem_append_right _ (H.r3 x hx h1)
    ·refine List.mem_append_left _ ?_
     have hch:=A.g.ch k hk
     rw [hs] at hch
     have hc0:(T q).curr≠0:=fun e0=>by
      rw [e0] at hch
      have:=Ch.zero (fun j hj=>(A.g.gn j (ls_cap A.g hk hj)).2.1) hch
      rw [this] at h1;simp at h1
     obtain ⟨y,_,hy1,hy2,_⟩:=hcur hc0
     rw [h1] at hy1
     injection hy1 with hy1
     rw [if_pos hc0,hy2,hy1];simp
   ·unfold LKs at hx
    rcases List.mem_append.1 hx with hx | hx
    ·unfold pend at hx
     by_cases hc0:(T q).curr=0
     ·rw [if_neg (fun x=>x.2.2 hc0)] at hx;simp at hx
     ·rw [if_pos ⟨by dsimp only;omega,by dsimp only;omega,hc0⟩] at hx
      rw [List.mem_singleton.1 hx]
      obtain ⟨y,_,hy1,_,hy3⟩:=hcur hc0
      dsimp only
      rw [hy3,show (T q).op.key.toNat=k from hkd.symm]
      exact ⟨(hls _ _).2 (.inr (List.mem_of_head? hy1)),(hhead y hy1).2⟩
    ·have hx2:x∈LKs (T q):=by
      unfold LKs
      refine List.mem_append_right _ ?_
      rw [if_neg (fun w=>by have:=w.2.1;omega)]
      rw [if_neg (fun w=>by have:=w.2.1;dsimp only at this;omega)] at hx
      exact hx
     have:=H.lk x hx2
     exact ⟨(hls _ _).2 (.inr this.1),this.2⟩
   ·refine ⟨(H.lm h' hh).1,fun k' hk' hin'=>?_⟩
    rcases (hls _ _).1 hin' with ⟨_,h1⟩ | h1
    ·obtain ⟨j,_,_,h3,h4⟩:=H.r2 _ (Rt_limbo hh)
     rw [←h3,h1,e3] at h4;cases h4
    ·exact (H.lm h' hh).2 k' hk' h1
   all_goals try dsimp only
   all_goals first | omega | skip
   refine ⟨⟨i,hi,e1,e2,by rw [show ok {T q with pc:=43}=k from hkd.symm];exact hpbi⟩,H.z1 (by omega),fun r hr h70 hlr=>?_⟩
   by_cases er:r=q
   ·rw [er,upd_s] at h70;dsimp only at h70;omega
   ·rw [upd_n er] at hlr
    obtain ⟨j,_,_,h3,h4⟩:=(A.t r hr).r2 _ (Rt_limbo hlr)
    rw [←h3,e2,e3] at h4;cases h4
  ·rw [upd_n e]
   have H2:=A.t q hq
   have hpi:G.ow i≠.pr q:=fun x=>by rw [e3] at x;injection x with x;exact e x.symm
   have hrn:∀ h'∈Rt (T q),ix h'≠i:=fun h' hh x=>by
    obtain ⟨j,_,_,h3,h4⟩:=H2.r2 _ hh
    rw [←h3,x,e3] at h4;cases h4
   refine ⟨H2.f1,fun x hx=>?_,fun x hx ho=>H2.f3 x hx ((hfr x q).1 ho),fun x=>?_,fun x hx ho=>H2.p3 x hx ((hpr x q).1 ho).1,H2.r1,fun h' hh=>?_,fun x hx ho=>H2.r3 x hx (((hrt x q).1 ho).resolve_right fun z=>e z.1),fun x hx=>⟨(hls _ _).2 (.inr (H2.lk x hx).1),(H2.lk x hx).2⟩,fun x=>?_,fun h' hh=>⟨(H2.lm h' hh).1,fun k' hk' hin'=>?_⟩,fun x y hin'=>?_,H2.w2,fun x=>?_,H2.w4,fun x=>hGd rfl (H2.g0 x),fun x y=>hGd rfl (H2.gp x y),fun x y=>hGd rfl (H2.gc x y),fun x=>hGd rfl (H2.gn x),H2.z0,H2.z1,H2.nz,H2.pu,H2.rd,H2.nr⟩
   ·obtain ⟨j,h1,h2,h3⟩:=H2.f2 x hx;exact ⟨j,h1,h2,(hfr j q).2 h3⟩
   ·obtain ⟨j,h1,h2,h3,h4⟩:=H2.p2 x
    exact ⟨j,h1,h2,h3,(hpr j q).2 ⟨h4,fun z=>hpi (by rw [←z];exact h4)⟩⟩
   ·obtain ⟨j,h1,h2,h3,h4⟩:=H2.r2 _ hh;exact ⟨j,h1,h2,h3,(hrt j q).2 (.inl h4)⟩
   ·obtain ⟨h1,h2,h3⟩:=H2.wm x
    exact ⟨h1,h2,by rw [hpbn _ (hne _ _ h3)];exact h3⟩
   ·rcases (hls _ _).1 hin' with ⟨_,h1⟩ | h1
    ·exact hrn _ (Rt_limbo hh) h1
    ·exact (H2.lm h' hh).2 k' hk' h1
   ·have h3:=(H2.wm x).2.2
    have h4:=hne _ _ h3
    rw [hsq _ h4]
    exact Nat.le_trans (H2.w1 x y (((hls _ _).1 hin').resolve_left fun z=>h4 z.2)) (hsqn _)
   ·obtain ⟨h1,h2⟩:=H2.w3 x
    obtain ⟨⟨y,hy,y1,y2,y3⟩,_⟩:=H2.g0 (by omega)
    have hcu:sqn (pubG G k i p m.ck) (T q).curr=sqn G (T q).curr:=by
     unfold sqn
     rw [y2,hsq y (hne _ _ y3)]
    have hlt:sqn G (T q).curr<G.nx:=by
     rw [y1,A.g.sqv hy];exact A.g.sx y
    refine ⟨h1,fun z hz hlt2=>?_⟩
    rw [hcu]
    by_cases ez:z=i
    ·rw [ez,hsqi];exact Nat.le_of_lt hlt
    ·rw [hsq z ez] at hlt2 ⊢
     exact h2 z (((hls _ _).1 hz).resolve_left fun w=>ez w.2) (Nat.lt_of_le_of_lt (hsqn _) hlt2)
end
noncomputable section
variable {c:Cf} {m:Mm} {T:Nat→Th} {G:Gh} {p:Nat}
theorem mrk_ok {c:Cf} {h:Int} (hz:Vg c h=true) (hm:¬isMk h=true):isMk (mrk h)=true∧unmk (mrk h)=h∧unmk h=h:=by
 have hu:unmk h=h:=by unfold unmk;exact if_neg hm
 unfold Vg at hz
 rw [hu] at hz
 simp only [Bool.or_eq_true,Bool.and_eq_true,decide_eq_true_eq] at hz
 rcases hz with h0 | ⟨h1,_⟩
 ·subst h0;rw [mrk_0,isMk_1,unmk_1];simp [X4u]
 ·have h2:h % 2=0:=by
   unfold isMk at hm
   rw [h1] at hm
   simp only [Bool.true_and,Bool.or_eq_true,decide_eq_true_eq,not_or] at hm
   omega
  have h3:mrk h=h+1:=by unfold mrk;rw [if_pos (.inr ⟨h1,h2⟩)]
  have h4:isMk (h+1)=true:=by
   unfold isMk
   unfold isH at h1 ⊢
   have:=of_decide_eq_true h1
   rw [decide_eq_true (show 2≤h+1∧(h+1) / 2 % 64≠0∧(h+1) / 2 / 64≤9999 by omega),decide_eq_true (show (h+1) % 2=1 by omega)];simp
  rw [h3]
  exact ⟨h4,by unfold unmk;rw [if_pos h4];omega,hu⟩
theorem ia61 (A:IA c m T G) (hp:(p:Int)<c.th) (T2:TV c (T p)) (h:(T p).pc=61) (hw:(T p).work≠[]) (hz:∀ i:Nat,(i:Int)<c.cap→Vg c (m.ol i)=true) (hs:m.ol (ix (tgt (T p)))=(T p).seen) :
 IA c {m with ol:=upd m.ol (ix (tgt (T p))) (mrk (T p).seen)} (upd T p {T p with pc:=10}) G:=by
 have H:=A.t p hp
 obtain ⟨e,he1,he2,he3⟩:=tgt_mem hw
 obtain ⟨w,hwk⟩:∃ w,(T p).work=e::w:=by
  obtain ⟨a,l,h1⟩:=(Yv (T p).work).resolve_left hw
  rw [h1] at he3
  exact ⟨l,by rw [h1];exact congrArg (·::l) he3⟩
 obtain ⟨i,hi,e1,e2,e3⟩:=H.r2 _ (Rt_work he1)
 rw [he2] at e1 e2
 rw [e2] at hs ⊢
 have hnw:¬wlk (T p):=fun x=>by have:=x.2.1;omega
 have hlk:=H.lk (hk e) (by unfold LKs;rw [if_neg hnw];exact List.mem_append_right _ (List.mem_append_right _ (List.mem_map_of_mem he1)))
 unfold hk at hlk
 dsimp only at hlk
 rw [he2,e2] at hlk
 obtain ⟨q1,q2,q3⟩:=mrk_ok (hz i hi) hlk.2
 rw [hs] at q1 q2 q3
 have ho2:=H.nr (by omega)
 have hkk:kk (T p)=e.key.toNat:=by unfold kk wKey;rw [if_neg ho2,hwk]
 have hol:∀ j,j≠i→upd m.ol i (mrk (T p).seen) j=m.ol j:=fun j h=>upd_n h
 have hmn:∀ j,j≠i→mkd {m with ol:=upd m.ol i (mrk (T p).seen)} j=mkd m j:=fun j h=>by unfold mkd;dsimp only;rw [hol j h]
 have hmi:mkd {m with ol:=upd m.ol i (mrk (T p).seen)} i:=by unfold mkd;dsimp only;rw [upd_s];exact q1
 have hmk:∀ j,mkd m j→mkd {m with ol:=upd m.ol i (mrk (T p).seen)} j:=fun j hj=>by
  by_cases ej:j=i
  ·rw [ej];exact hmi
  ·rw [hmn j ej];exact hj
 have hpbi:∃ k,G.pb i=some k∧k=e.key.toNat:=by
  obtain ⟨k,hk1⟩:=ow_pb A.g hi e3
  refine ⟨k,hk1,?_⟩
  by_cases hkk2:((e.key.toNat:Nat):Int)<c.keys
  ·have:=A.g.lp _ hkk2 i hlk.1
   rw [hk1] at this
   injection this
  ·have:=X2q (T2.wf e he1)
   omega
 refine ⟨⟨A.g.gn,fun k hk=>?_,A.g.lp,A.g.pk,fun j k hj=>?_,A.g.so,A.g.sx,fun k j hk hj=>?_,A.g.ho,A.g.o1,A.g.of,A.g.op,A.g.or,A.g.si,A.g.ob,A.g.a0⟩,fun q hq=>?_⟩
 ·refine Ch.congr (m:=m) (fun _ _=>rfl) (fun j hj=>?_) (A.g.ch k hk)
  by_cases ej:j=i
  ·subst ej;dsimp only;rw [upd_s,q2,hs,q3]
  ·dsimp only;rw [hol j ej]
 ·exact (A.g.pl j k hj).imp (fun x=>x) (hmk j)
 ·obtain ⟨h1,h2⟩:=A.g.oh k j hk hj
  refine ⟨h1,?_⟩
  rw [hmn j (fun ej=>by rw [ej,e3] at h1;cases h1)];exact h2
 ·have hGd:∀ {q' j h k' t'},t'.pc=10→Gd c m T G q' j h k'→Gd c {m with ol:=upd m.ol i (mrk (T p).seen)} (upd T p t') G q' j h k':=by
   intro q' j h k' t' ht g
   exact g.to A.g hp (.no (t':=t') (by omega)) rfl rfl
  by_cases eq:q=p
  ·subst eq
   rw [upd_s]
   have hp1:pend {T q with pc:=10}=[]:=pend_no (by dsimp only;omega)
   have hp2:pend (T q)=[]:=pend_no (by omega)
   have hRt:Rt {T q with pc:=10}=Rt (T q):=Rt_eq (by rw [hp1,hp2]) rfl rfl rfl
   have hwl:wlk {T q with pc:=10}:=⟨by dsimp only;omega,by dsimp only;omega,ho2⟩
   have hnd:∀ x∈LKs {T q with pc:=10},x∈LKs (T q)∧x.1≠e.h:=by
    intro x hx
    have hR1:=H.r1
    unfold Rt at hR1
    rw [hp2,hwk] at hR1
    unfold LKs at hx ⊢
    rw [hp1,if_pos hwl] at hx
    rw [hp2,if_neg hnw]
    dsimp only at hx
    rw [hwk] at hx ⊢
    simp only [List.tail_cons,List.nil_append,List.mem_append,List.map_cons,List.mem_cons] at hx ⊢
    simp only [List.map_nil,List.nil_append,List.map_cons,List.cons_append] at hR1
    obtain ⟨n1,n2,n3⟩:=List.nodup_append.1 hR1
    rcases hx with hx | hx
    ·refine ⟨.inl hx,fun ex=>?_⟩
     obtain ⟨b,hb1,rfl⟩:=List.mem_map.1 hx
     exact n3 b.h (List.mem_map_of_mem hb1) e.h (by simp) ex
    ·refine ⟨.inr (.inr hx),fun ex=>?_⟩
     obtain ⟨b,hb1,rfl⟩:=List.mem_map.1 hx
     refine (List.nodup_cons.1 n2).1 ?_
     rw [←ex]
     exact List.mem_append_left _ (List.mem_map_of_mem hb1)
   refine ⟨H.f1,H.f2,H.f3,fun x=>by dsimp only at x;omega,fun j hj ho=>by have:=(H.p3 j hj ho).1;omega,by rw [hRt];exact H.r1,by rw [hRt];exact H.r2,by rw [hRt];exact H.r3,fun x hx=>?_,fun _=>⟨hw,?_,?_⟩,fun h' hh=>⟨hmk _ (H.lm h' hh).1,(H.lm h' hh).2⟩,?_,?_,?_,?_,?_,?_,?_,?_,?_,?_,?_,?_,?_,?_⟩
   ·obtain ⟨h1,h2⟩:=hnd x hx
    have h3:=H.lk x h1
    refine ⟨h3.1,?_⟩
    rw [hmn _ (fun ex=>?_)]
    ·exact h3.2
    ·obtain ⟨j,hj,g1,g2,_⟩:=H.r2 _ (LKs_Rt h1)
     exact h2 (by rw [g1,←g2,ex,he2,e1])
   ·rw [show tgt {T q with pc:=10}=tgt (T q) from rfl,e2];exact hmi
   ·rw [show tgt {T q with pc:=10}=tgt (T q) from rfl,e2,show kk {T q with pc:=10}=kk (T q) from rfl,hkk]
    obtain ⟨k,h1,h2⟩:=hpbi
    rw [h1,h2]
   all_goals try dsimp only
   all_goals omega
  ·rw [upd_n eq]
   have H2:=A.t q hq
   have hrn:∀ h'∈Rt (T q),ix h'≠i:=fun h' hh x=>by
    obtain ⟨j,_,_,h3,h4⟩:=H2.r2 _ hh
    rw [←h3,x,e3] at h4;injection h4 with h4;exact eq h4.symm
   refine ⟨H2.f1,H2.f2,H2.f3,H2.p2,H2.p3,H2.r1,H2.r2,H2.r3,fun x hx=>⟨(H2.lk x hx).1,?_⟩,fun x=>⟨(H2.wm x).1,hmk _ (H2.wm x).2.1,(H2.wm x).2.2⟩,fun h' hh=>⟨hmk _ (H2.lm h' hh).1,(H2.lm h' hh).2⟩,H2.w1,H2.w2,H2.w3,fun x=>?_,fun x=>hGd rfl (H2.g0 x),fun x y=>hGd rfl (H2.gp x y),fun x y=>hGd rfl (H2.gc x y),fun x=>hGd rfl (H2.gn x),H2.z0,H2.z1,H2.nz,fun x=>?_,H2.rd,H2.nr⟩
   ·rw [hmn _ (hrn _ (LKs_Rt hx))];exact (H2.lk x hx).2
   ·dsimp only
    obtain ⟨h1,h2⟩:=H2.w4 x
    rw [hol _ (fun ex=>by rw [ex] at h1;rw [←h1] at h2;exact hlk.2 h2)]
    exact ⟨h1,h2⟩
   ·dsimp only
    obtain ⟨j,h1,h2,h3,h4⟩:=H2.p2 (by omega)
    rw [hol _ (fun ex=>by rw [←h3,ex,e3] at h4;cases h4)];exact H2.pu x
end
noncomputable section
variable {c:Cf} {m:Mm} {T:Nat→Th} {G:Gh} {p:Nat}
theorem Ch.cut {m m':Mm} {a i:Nat} {B:List Nat} (hg:m'.gn=m.gn) (ha:unmk (m'.ol a)=unmk (m.ol i)):∀ {L:List Nat} {v:Int},(∀ j∈L++B,m'.ol j=m.ol j)→Ch m v (L++a::i::B)→Ch m' v (L++a::B)
 | [],v,h1,h=>⟨by rw [hg];exact h.1,by rw [ha];exact Ch.congr (m:=m) (fun _ _=>by unfold hl;rw [hg]) (fun j hj=>by rw [h1 j (by simpa using hj)]) h.2.2⟩
 | b::L,v,h1,h=>⟨by rw [hg];exact h.1,by rw [h1 b (by simp)];exact Ch.cut hg ha (fun j hj=>h1 j (by simp only [List.cons_append,List.mem_cons];exact .inr hj)) h.2⟩
def unlG (G:Gh) (k:Nat) (L:List Nat):Gh:={G with ls:=upd G.ls k L}
theorem IA.unl (A:IA c m T G) (hp:(p:Int)<c.th) (T2:TV c (T p)) (h:(T p).pc=14) (hlk:lkv m (T p)=(T p).curr) :
 ∃ L,L=((G.ls (kk (T p))).filter fun j=>decide (j≠ix (T p).curr))∧(T p).prev≠0∧IA c {m with ol:=upd m.ol (ix (T p).prev) (unmk (T p).next)} T (unlG G (kk (T p)) L)∧(∃ i,ix (T p).curr=i∧mkd m i∧i∈G.ls (kk (T p))∧i ∉ L∧(∀ j,j∈L↔j∈G.ls (kk (T p))∧j≠i)) ∧
  ∀ j∈L,G.sq j≤sqn G (T p).curr→G.sq j≤sqn G (unmk (T p).next):=by
 have H:=A.t p hp
 have hk:=kk_lt T2 (by omega)
 obtain ⟨⟨i0,hi0,f1,f2,f3⟩,_⟩:=H.g0 (by omega)
 have hc0:(T p).curr≠0:=by rw [f1];have:=A.g.pos hi0;omega
 obtain ⟨i,Lx,B,hL,e1,hpv⟩:=link_ls A hp T2 (by omega) hc0 hlk
 have hi:(i:Int)<c.cap:=ls_cap A.g hk (by rw [hL];simp)
 have hii:i0=i:=hl_inj (A.g.gn i0 hi0).1 (A.g.gn i hi).1 (f1.symm.trans e1)
 subst hii
 obtain ⟨w1,w2⟩:=H.w4 h
 rw [f2] at w1
 have hmi:mkd m i0:=by unfold mkd;rw [w1];exact w2
 rcases hpv with ⟨_,e0⟩ | ⟨hpv,L',e3,e4,e5⟩
 ·have:=(A.g.oh _ i0 hk (by rw [hL,e0];rfl)).2
  exact absurd hmi this
 obtain ⟨k,hkd⟩:∃ k,k=kk (T p):=⟨_,rfl⟩
 rw [←hkd] at hk hL f3 ⊢
 obtain ⟨a,had⟩:∃ a,a=ix (T p).prev:=⟨_,rfl⟩
 rw [←had] at e3 e4 e5 ⊢
 subst e3
 have hLs:G.ls k=L'++a::i0::B:=by rw [hL];simp
 have hso:=A.g.so k hk
 rw [hLs] at hso
 obtain ⟨s1,s2,s3⟩:=List.pairwise_append.1 hso
 obtain ⟨s4,s5⟩:=List.pairwise_cons.1 s2
 obtain ⟨s6,s7⟩:=List.pairwise_cons.1 s5
 have hai:a≠i0:=fun e=>e5 (by rw [e];exact hmi)
 have hB:∀ j∈B,j≠i0∧j≠a:=fun j hj=>⟨fun e=>by have:=s6 j hj;rw [e] at this;omega,fun e=>by have:=s4 j (by simp [hj]);rw [e] at this;omega⟩
 have hL':∀ j∈L',j≠i0∧j≠a:=fun j hj=>⟨fun e=>by have:=s3 j hj i0 (by simp);rw [e] at this;omega,fun e=>by have:=s3 j hj a (by simp);rw [e] at this;omega⟩
 have hmem:∀ j,j∈L'++a::B↔j∈G.ls k∧j≠i0:=by
  intro j
  rw [hLs]
  simp only [List.mem_append,List.mem_cons]
  constructor
  ·rintro (x | x | x)
   ·exact ⟨.inl x,(hL' j x).1⟩
   ·exact ⟨.inr (.inl x),by rw [x];exact hai⟩
   ·exact ⟨.inr (.inr (.inr x)),(hB j x).1⟩
  ·rintro ⟨x | x | x | x,y⟩
   ·exact .inl x
   ·exact .inr (.inl x)
   ·exact absurd x y
   ·exact .inr (.inr x)
 have hfil:L'++a::B=(G.ls k).filter fun j=>decide (j≠ix (T p).curr):=by
  rw [f2,hLs,List.filter_append,List.filter_cons_of_pos (by simp [hai]),List.filter_cons_of_neg (by simp)]
  rw [List.filter_eq_self.2 (fun x hx=>by simp [(hL' x hx).1]),List.filter_eq_self.2 (fun x hx=>by simp [(hB x hx).1])]
 refine ⟨L'++a::B,hfil,hpv,?_,⟨i0,f2,hmi,by rw [hLs];simp,fun x=>((hmem i0).1 x).2 rfl,hmem⟩,?_⟩
 ·have hls:∀ k' j:Nat,(k':Int)<c.keys→j∈(unlG G k (L'++a::B)).ls k'→j∈G.ls k'∧j≠i0:=by
   intro k' j hk' hj
   unfold unlG at hj
   dsimp only at hj
   by_cases e:k'=k
   ·subst e;rw [upd_s] at hj;exact (hmem j).1 hj
   ·rw [upd_n e] at hj
    refine ⟨hj,fun ej=>e ?_⟩
    have:=A.g.lp k' hk' j hj
    rw [ej,f3] at this
    injection this with this
    exact this.symm
  have hls2:∀ k' j,j∈G.ls k'→j≠i0→j∈(unlG G k (L'++a::B)).ls k':=by
   intro k' j hj hne
   unfold unlG
   dsimp only
   by_cases e:k'=k
   ·subst e;rw [upd_s];exact (hmem j).2 ⟨hj,hne⟩
   ·rw [upd_n e];exact hj
  have hol:∀ j,j≠a→upd m.ol a (unmk (T p).next) j=m.ol j:=fun j h=>upd_n h
  have hmn:∀ j,j≠a→mkd {m with ol:=upd m.ol a (unmk (T p).next)} j=mkd m j:=fun j h=>by unfold mkd;dsimp only;rw [hol j h]
  have hma:¬mkd {m with ol:=upd m.ol a (unmk (T p).next)} a:=by unfold mkd;dsimp only;rw [upd_s,Xzx];simp
  have hmm:∀ j,mkd m j→mkd {m with ol:=upd m.ol a (unmk (T p).next)} j:=fun j hj=>by rw [hmn j (fun e=>e5 (by rw [←e];exact hj))];exact hj
  have hmb:∀ j,¬mkd m j→¬mkd {m with ol:=upd m.ol a (unmk (T p).next)} j:=fun j hj=>by
   by_cases e:j=a
   ·rw [e];exact hma
   ·rw [hmn j e];exact hj
  have hhd:∀ k':Nat,(unlG G k (L'++a::B)).ls k'=G.ls k'∨(k'=k∧(unlG G k (L'++a::B)).ls k'=L'++a::B):=by
   intro k'
   unfold unlG
   dsimp only
   by_cases e:k'=k
   ·subst e;rw [upd_s];exact .inr ⟨rfl,rfl⟩
   ·rw [upd_n e];exact .inl rfl
  have hhead:∀ k':Nat,((unlG G k (L'++a::B)).ls k').head?=(G.ls k').head?:=by
   intro k'
   rcases hhd k' with e | ⟨e,e2⟩
   ·rw [e]
   ·rw [e2,e,hLs];cases L' <;> rfl
  refine ⟨⟨A.g.gn,fun k' hk'=>?_,fun k' hk' j hj=>A.g.lp k' hk' j (hls k' j hk' hj).1,A.g.pk,fun j k' hj=>?_,fun k' hk'=>?_,A.g.sx,fun k' j hk' hj=>?_,fun k' j hj ho=>?_,A.g.o1,A.g.of,A.g.op,A.g.or,A.g.si,A.g.ob,A.g.a0⟩,fun q hq=>?_⟩
  ·rcases hhd k' with e | ⟨e,e2⟩
   ·rw [e]
    by_cases ek:k'=k
    ·exfalso
     subst ek
     have:=(hmem i0).1 (by
      have h1:(unlG G k' (L'++a::B)).ls k'=L'++a::B:=upd_s
      rw [←h1,e,hLs];simp)
     exact this.2 rfl
    ·refine Ch.congr (m:=m) (fun _ _=>rfl) (fun j hj=>?_) (A.g.ch k' hk')
     dsimp only
     rw [hol j (fun ej=>ek ?_)]
     have h1:=A.g.lp k' hk' j hj
     have h2:=A.g.lp k hk a (by rw [hLs];simp)
     rw [ej,h2] at h1
     injection h1 with h1;exact h1.symm
   ·rw [e2,e]
    have hch:=A.g.ch k hk
    rw [hLs] at hch
    refine Ch.cut (m:=m) (m':={m with ol:=upd m.ol a (unmk (T p).next)}) (i:=i0) rfl ?_ (fun j hj=>?_) hch
    ·dsimp only
     rw [upd_s,w1]
     unfold unmk
     have:=Xzx (h:=(T p).next)
     unfold unmk at this
     rw [if_neg (by rw [this];simp)]
    ·rcases List.mem_append.1 hj with hj | hj
     ·exact hol j (hL' j hj).2
     ·exact hol j (hB j hj).2
  ·rcases A.g.pl j k' hj with hx | hx
   ·by_cases ej:j=i0
    ·right;rw [ej];exact hmm _ hmi
    ·exact .inl (hls2 k' j hx ej)
   ·exact .inr (hmm _ hx)
  ·rcases hhd k' with e | ⟨e,e2⟩
   ·rw [e];exact A.g.so k' hk'
   ·rw [e2]
    show (L'++a::B).Pairwise fun x y=>G.sq y<G.sq x
    refine List.pairwise_append.2 ⟨s1,List.pairwise_cons.2 ⟨fun x hx=>s4 x (by simp [hx]),s7⟩,fun x hx y hy=>s3 x hx y ?_⟩
    simp only [List.mem_cons] at hy ⊢
    exact hy.imp (fun z=>z) .inr
  ·rw [hhead k'] at hj
   obtain ⟨h1,h2⟩:=A.g.oh k' j hk' hj
   exact ⟨h1,hmb j h2⟩
  ·rw [hhead k'];exact A.g.ho k' j hj ho
  ·have H2:=A.t q hq
   have hGd:∀ {q' j h k'},Gd c m T G q' j h k'→Gd c {m with ol:=upd m.ol a (unmk (T p).next)} T (unlG G k (L'++a::B)) q' j h k':=fun x=>x
   refine ⟨H2.f1,H2.f2,H2.f3,H2.p2,H2.p3,H2.r1,H2.r2,H2.r3,fun x hx=>?_,fun x=>⟨(H2.wm x).1,hmm _ (H2.wm x).2.1,(H2.wm x).2.2⟩,fun h' hh=>⟨hmm _ (H2.lm h' hh).1,fun k' hk' hin=>(H2.lm h' hh).2 k' hk' (hls k' _ hk' hin).1⟩,fun x y hin=>?_,H2.w2,fun x=>⟨(H2.w3 x).1,fun j hj=>?_⟩,fun x=>?_,fun x=>hGd (H2.g0 x),fun x y=>hGd (H2.gp x y),fun x y=>hGd (H2.gc x y),fun x=>hGd (H2.gn x),H2.z0,H2.z1,H2.nz,fun x=>?_,H2.rd,H2.nr⟩
   ·obtain ⟨h1,h2⟩:=H2.lk x hx
    exact ⟨hls2 _ _ h1 (fun ej=>h2 (by rw [ej];exact hmi)),hmb _ h2⟩
   ·have hkk:=(A.g.pk _ _ (H2.wm x).2.2).2.1
    exact H2.w1 x y (hls _ _ hkk hin).1
   ·obtain ⟨⟨y,_,_,_,h4⟩,_⟩:=H2.g0 (by omega)
    exact (H2.w3 x).2 j (hls _ _ (A.g.pk _ _ h4).2.1 hj).1
   ·obtain ⟨h1,h2⟩:=H2.w4 x
    dsimp only
    rw [hol _ (fun ex=>e5 (by unfold mkd;rw [←ex,h1];exact h2))]
    exact ⟨h1,h2⟩
   ·obtain ⟨j,h1,h2,h3,h4⟩:=H2.p2 (by omega)
    dsimp only
    rw [hol _ (fun ex=>?_)]
    ·exact H2.pu x
    ·have h5:=A.g.lp k hk a (by rw [hLs];simp)
     have h6:=(A.g.ob j h1).1 (by rw [←h3,ex,h5];simp)
     rw [h4] at h6
     rcases h6 with ⟨_,h6⟩ | ⟨_,h6⟩ <;> cases h6
 ·intro j hj hle
  rw [e1,A.g.sqv hi] at hle
  have hch:=A.g.ch k hk
  rw [hL] at hch
  have hB2:=hch.split
  rw [w1] at hB2
  rcases List.mem_append.1 hj with hj | hj
  ·have:=s3 j hj i0 (by simp);omega
  ·rcases List.mem_cons.1 hj with hj | hj
   ·have:=s4 i0 (by simp);rw [hj] at hle;omega
   ·cases B with
    | nil=>simp at hj
    | cons b B =>
      have hb:(b:Int)<c.cap:=ls_cap A.g hk (i:=b) (by rw [hLs];simp)
      rw [hB2.1,A.g.sqv hb]
      rcases List.mem_cons.1 hj with rfl | hj
      ·exact Nat.le_refl _
      ·have:=(List.pairwise_cons.1 s7).1 j hj;omega
theorem ia14 (A:IA c m T G) (hp:(p:Int)<c.th) (T2:TV c (T p)) (h:(T p).pc=14) (hlk:lkv m (T p)=(T p).curr) :
 (T p).prev≠0∧∃ L,L=((G.ls (kk (T p))).filter fun j=>decide (j≠ix (T p).curr))∧IA c {m with ol:=upd m.ol (ix (T p).prev) (unmk (T p).next)} (upd T p (goOn {T p with curr:=unmk (T p).next})) (unlG G (kk (T p)) L)∧(∃ i,ix (T p).curr=i∧mkd m i∧i∈G.ls (kk (T p))∧i ∉ L∧(∀ j,j∈L↔j∈G.ls (kk (T p))∧j≠i)):=by
 obtain ⟨L,h0,h1,h2,h3,h4⟩:=A.unl hp T2 h hlk
 refine ⟨h1,L,h0,?_,h3⟩
 have H:=h2.t p hp
 have hn:∀ m:Mm,ScK m (T p) (goOn {T p with curr:=unmk (T p).next}):=fun m=>.no (by rcases goOn_pc (t:={T p with curr:=unmk (T p).next}) with h | h | h | h <;> omega)
 refine h2.reg hp (hn _) rfl rfl rfl rfl (fun _ _ _ _=>rfl) ?_
 have:=H.goOn (m':={m with ol:=upd m.ol (ix (T p).prev) (unmk (T p).next)}) (T':=upd T p (goOn {T p with curr:=unmk (T p).next})) h2.g rfl rfl (by omega) (T p).prev (unmk (T p).next) (fun hw hin=>?_) (fun hv=>?_)
 ·exact this
 ·have h5:=H.w1 hw (by omega) hin
  have h6:ix (tgt (T p))∈L:=by
   have:(unlG G (kk (T p)) L).ls (kk (T p))=L:=upd_s
   rw [←this];exact hin
  exact h4 _ h6 h5
 ·exact (H.gp (by omega) hv).to h2.g hp (hn _) rfl rfl
end
noncomputable section
variable {c:Cf} {m:Mm} {T:Nat→Th} {G:Gh} {p:Nat}
theorem TA.perm {m':Mm} {T':Nat→Th} {t:Th} {a b:Int} (A:TA c m T G p t) (t':Th) (h:t.pc=a) (h':t'.pc=b) (e1:m'.gn=m.gn) (e2:m'.ol=m.ol) (ha:45≤a∧a≤70) (hb:b=0∨45<b)
 (hR:(Rt t').Perm (Rt t)) (hL:∀ x∈LKs t',x∈LKs t) (hf:t'.free=t.free:=by rfl) (hl2:t'.limbo=t.limbo:=by rfl) (ho:t'.op=t.op:=by rfl):TA c m' T' G p t':=by
 have hm:∀ i,mkd m' i=mkd m i:=fun i=>by unfold mkd;rw [e2]
 have hk:¬wlk t':=by unfold wlk;omega
 refine ⟨by rw [hf];exact A.f1,by rw [hf];exact A.f2,by rw [hf];exact A.f3,fun x=>by omega,?_,hR.nodup_iff.2 A.r1,fun x hx=>?_,fun i hi x=>?_,fun x hx=>?_,fun x=>absurd x hk,?_,fun x=>absurd x hk,fun x=>absurd x hk,fun x=>by omega,fun x=>by omega,fun x=>by omega,fun x=>by omega,fun x=>by omega,fun x=>by omega,fun x=>by omega,fun x=>by omega,fun x=>by omega,fun x=>by omega,fun x=>by omega,fun x=>by rw [ho];exact A.nr (by omega)⟩
 ·intro i hi x
  have:=(A.p3 i hi x).1
  omega
 ·rw [e1];exact A.r2 x (hR.mem_iff.1 hx)
 ·rw [e1];exact hR.mem_iff.2 (A.r3 i hi x)
 ·simp only [hm];exact A.lk x (hL x hx)
 ·rw [hl2];simp only [hm];exact A.lm
theorem ia45 (A:IA c m T G) (hp:(p:Int)<c.th) (h:(T p).pc=45) (e:Ent) (he:e.h=(T p).curr∧e.key=(T p).op.key) (P:Prop) [Decidable P] (hP:(T p).curr≠0↔P) :
 IA c m (upd T p {T p with buf:=if P then (T p).buf++[e] else (T p).buf,pc:=46}) G:=by
 have H:=A.t p hp
 refine A.reg hp (.no (by dsimp only;omega)) rfl rfl rfl rfl (fun _ _ _ _=>rfl) ?_
 have hp1:pend {T p with buf:=if P then (T p).buf++[e] else (T p).buf,pc:=46}=[]:=pend_no (by dsimp only;omega)
 have hnw:¬wlk (T p):=fun x=>by have:=x.2.1;omega
 have hnw2:¬wlk {T p with buf:=if P then (T p).buf++[e] else (T p).buf,pc:=46}:=fun x=>by have:=x.2.1;dsimp only at this;omega
 refine H.perm (b:=46) _ h rfl rfl rfl (by omega) (by omega) ?_ ?_
 ·unfold Rt
  rw [hp1]
  unfold pend
  dsimp only
  by_cases hc:P
  ·have hc0:=hP.2 hc
   rw [if_pos hc,if_pos ⟨by omega,by omega,hc0⟩]
   simp only [List.map_nil,List.nil_append,List.map_append,List.map_cons,he.1,List.append_assoc,List.cons_append]
   exact List.perm_middle
  ·have hc0:(T p).curr=0:=Classical.byContradiction fun x=>hc (hP.1 x)
   rw [if_neg hc,if_neg (fun x=>x.2.2 hc0)]
 ·intro x hx
  unfold LKs at hx ⊢
  rw [hp1,if_neg hnw2] at hx
  rw [if_neg hnw]
  unfold pend
  dsimp only at hx
  by_cases hc:P
  ·have hc0:=hP.2 hc
   rw [if_pos hc] at hx
   rw [if_pos ⟨by omega,by omega,hc0⟩]
   simp only [List.nil_append,List.mem_append,List.map_append,List.map_cons,List.map_nil,List.mem_cons,List.not_mem_nil,or_false,List.mem_singleton] at hx ⊢
   unfold hk at hx ⊢
   rw [he.1,he.2] at hx
   rcases hx with (hx | hx) | hx
   ·exact .inr (.inl hx)
   ·exact .inl hx
   ·exact .inr (.inr hx)
  ·rw [if_neg hc] at hx
   exact List.mem_append_right _ hx
theorem perm_split (d:Ent→Bool) (b w:List Ent) (l:List Int):((b.filter fun e=>!d e).map Ent.h++(w.map Ent.h++(b.filter d).map Ent.h++l)).Perm (b.map Ent.h++(w.map Ent.h++l)):=by
 have h1:(b.filter d++b.filter fun e=>!d e).Perm b:=List.filter_append_perm d _
 have h2:=h1.map Ent.h
 rw [List.map_append] at h2
 have h3:((b.filter fun e=>!d e).map Ent.h++(w.map Ent.h++(b.filter d).map Ent.h++l)).Perm (((b.filter d).map Ent.h++(b.filter fun e=>!d e).map Ent.h)++(w.map Ent.h++l)):=by
  refine List.perm_iff_count.2 fun x=>?_
  simp only [List.count_append];omega
 exact h3.trans (h2.append_right _)
theorem ia50 (A:IA c m T G) (hp:(p:Int)<c.th) (h:(T p).pc=50) (f:List Int) (t':Th) (hpc:t'.pc=60∨t'.pc=70∨t'.pc=0) (h70:t'.pc=70→t'.pos=0)
 (hb:t'.buf=(scn c (T p) f).buf) (hw:t'.work=(scn c (T p) f).work) (hf:t'.free=(T p).free) (hl2:t'.limbo=(T p).limbo) (ho:t'.op=(T p).op):IA c m (upd T p t') G:=by
 have H:=A.t p hp
 refine A.reg hp (fun x=>.inl (h70 x)) rfl rfl rfl rfl (fun _ _ _ _=>rfl) ?_
 have hp1:pend t'=[]:=pend_no (by omega)
 have hp2:pend (T p)=[]:=pend_no (by omega)
 have hnw:¬wlk (T p):=fun x=>by have:=x.2.1;omega
 have hnw2:¬wlk t':=fun x=>by have:=x.2.1;have:=x.1;omega
 unfold scn at hb hw
 dsimp only at hb hw
 refine H.perm (b:=t'.pc) _ h rfl rfl rfl (by omega) (by omega) ?_ ?_ hf hl2 ho
 ·unfold Rt
  rw [hp1,hp2,hb,hw,hl2]
  refine List.Perm.append_left _ ?_
  rw [List.map_append]
  exact perm_split (fun e=>drpB c.p (if (T p).op.k=5 then -1 else (T p).op.key) f e) _ _ _
 ·intro x hx
  unfold LKs at hx ⊢
  rw [hp1,if_neg hnw2,hb,hw] at hx
  rw [hp2,if_neg hnw]
  simp only [List.nil_append,List.mem_append,List.map_append,List.mem_map,List.mem_filter] at hx ⊢
  rcases hx with ⟨e,⟨h1,_⟩,h2⟩ | ⟨e,h1,h2⟩ | ⟨e,⟨h1,_⟩,h2⟩
  ·exact .inl ⟨e,h1,h2⟩
  ·exact .inr ⟨e,h1,h2⟩
  ·exact .inl ⟨e,h1,h2⟩
theorem fin_f {c:Cf} {t:Th}:((fin c t).pc=70∨(fin c t).pc=0)∧((fin c t).pc=70→(fin c t).pos=0)∧(fin c t).buf=t.buf∧(fin c t).work=t.work∧(fin c t).free=t.free∧(fin c t).limbo=t.limbo∧(fin c t).op=t.op∧(fin c t).snap=t.snap:=by
 unfold fin
 split
 ·exact ⟨.inl rfl,fun _=>rfl,rfl,rfl,rfl,rfl,rfl,rfl⟩
 ·exact ⟨.inr rfl,fun x=>(by cases x),rfl,rfl,rfl,rfl,rfl,rfl⟩
theorem scnE_f {c:Cf} {t:Th} {f:List Int}:((scnE c t f).pc=60∨(scnE c t f).pc=70∨(scnE c t f).pc=0)∧((scnE c t f).pc=70→(scnE c t f).pos=0)∧(scnE c t f).buf=(scn c t f).buf∧(scnE c t f).work=(scn c t f).work∧(scnE c t f).free=t.free∧(scnE c t f).limbo=t.limbo∧(scnE c t f).op=t.op∧(scnE c t f).snap=t.snap:=by
 unfold scnE
 split
 ·obtain ⟨h1,h2,h3,h4,h5,h6,h7,h8⟩:=fin_f (c:=c) (t:=scn c t f)
  exact ⟨.inr h1,h2,h3,h4,h5,h6,h7,h8⟩
 ·exact ⟨.inl rfl,fun x=>(by cases x),rfl,rfl,rfl,rfl,rfl,rfl⟩
theorem freeF_fold:∀ (F g fr:List Int),(∀ h∈F,0≤idxB h∧idxB h<(g.length:Int)∧g.getD (ix h) default<9998)→(F.map ix).Nodup→fr.length+F.length≤100 →
 (F.foldl Xz (g,fr)).2=fr++F.map idxB∧(F.foldl Xz (g,fr)).1.length=g.length∧∀ i:Nat,(F.foldl Xz (g,fr)).1.getD i default=if i∈F.map ix then g.getD i default+1 else g.getD i default
 | [],g,fr,_,_,_=>⟨by simp,rfl,fun i=>by simp⟩
 | h::F,g,fr,h1,h2,h3=>by
   obtain ⟨a1,a2,a3⟩:=h1 h (by simp)
   rw [List.map_cons,List.nodup_cons] at h2
   rw [List.length_cons] at h3
   have e:Xz (g,fr) h=(g.set (ix h) (g.getD (ix h) default+1),fr++[idxB h]):=by
    unfold Xz
    unfold ix at a3 ⊢
    rw [if_pos ⟨a3,by dsimp only;omega⟩]
   have hlt:ix h<g.length:=by unfold ix;omega
   have hget:∀ i:Nat,(g.set (ix h) (g.getD (ix h) default+1)).getD i default=if i=ix h then g.getD (ix h) default+1 else g.getD i default:=by
    intro i
    rw [List.getD_eq_getElem?_getD,List.getElem?_set]
    by_cases ei:ix h=i
    ·subst ei;rw [if_pos rfl,if_pos hlt,if_pos rfl];rfl
    ·rw [if_neg ei,if_neg (fun x=>ei x.symm),←List.getD_eq_getElem?_getD]
   rw [List.foldl_cons,e]
   obtain ⟨i1,i2,i3⟩:=freeF_fold F (g.set (ix h) (g.getD (ix h) default+1)) (fr++[idxB h]) (fun x hx=>by
    obtain ⟨b1,b2,b3⟩:=h1 x (by simp [hx])
    refine ⟨b1,by rw [List.length_set];exact b2,?_⟩
    rw [hget,if_neg (fun ex=>h2.1 (by rw [←ex];exact List.mem_map_of_mem hx))];exact b3) h2.2 (by rw [List.length_append,List.length_singleton];omega)
   refine ⟨by rw [i1];simp,by rw [i2,List.length_set],fun i=>?_⟩
   rw [i3,hget]
   by_cases ei:i=ix h
   ·subst ei
    rw [if_neg h2.1,if_pos rfl,if_pos (by simp)]
   ·rw [if_neg ei]
    by_cases em:i∈F.map ix
    ·rw [if_pos em,if_pos (by rw [List.map_cons];exact List.mem_cons_of_mem _ em)]
    ·rw [if_neg em,if_neg (by rw [List.map_cons,List.mem_cons];rintro (x | x);exact ei x;exact em x)]
def freG (G:Gh) (F:List Int) (p:Nat):Gh:={G with pb:=fun i=>if i∈F.map ix then none else G.pb i,ow:=fun i=>if i∈F.map ix then .fr p else G.ow i}
theorem ia70 (A:IA c m T G) (hp:(p:Int)<c.th) (h:(T p).pc=70) (hpos:0≤(T p).pos) (hs:¬(T p).pos+1<2*c.th) (f F:List Int) (hf:f=fndT (T p) (m.hz (T p).pos.toNat)) (hF:F=(T p).limbo.filter fun h=>!f.contains h)
 (g':Nat→Int) (hg':∀ i:Nat,g' i=if i∈F.map ix then m.gn i+1 else m.gn i) (hlt:∀ i:Nat,(i:Int)<c.cap→m.gn i<9998) :
 IA c {m with gn:=g'} (upd T p (endT {T p with limbo:=(T p).limbo.filter fun h=>f.contains h,free:=(T p).free++F.map idxB} ⟨0,0⟩)) (freG G F p):=by
 have H:=A.t p hp
 obtain ⟨t',ht'⟩:∃ t',t'=endT {T p with limbo:=(T p).limbo.filter fun h=>f.contains h,free:=(T p).free++F.map idxB} ⟨0,0⟩:=⟨_,rfl⟩
 have q0:t'.pc=0:=by rw [ht'];rfl
 have q1:t'.free=(T p).free++F.map idxB:=by rw [ht'];rfl
 have q2:t'.limbo=(T p).limbo.filter fun h=>f.contains h:=by rw [ht'];rfl
 have q3:t'.buf=(T p).buf:=by rw [ht'];rfl
 have q4:t'.work=(T p).work:=by rw [ht'];rfl
 rw [←ht']
 clear ht'
 have hFm:∀ h,h∈F↔h∈(T p).limbo∧h ∉ f:=fun h=>by rw [hF];simp
 have hFi:∀ h∈F,∃ i:Nat,(i:Int)<c.cap∧h=hl m.gn i∧ix h=i∧idxB h=i∧G.ow i=.rt p:=fun h hh=>by
  obtain ⟨i,h1,h2,h3,h4⟩:=H.r2 h (Rt_limbo ((hFm h).1 hh).1)
  have:=A.g.gn i h1
  exact ⟨i,h1,h2,h3,by rw [h2];exact hl_idx this.1 ⟨this.2.1,by omega⟩,h4⟩
 have hFx:∀ i,i∈F.map ix→(i:Int)<c.cap∧G.ow i=.rt p∧hl m.gn i∈F:=fun i hi=>by
  obtain ⟨h,h1,h2⟩:=List.mem_map.1 hi
  obtain ⟨j,h3,h4,h5,_,h6⟩:=hFi h h1
  have:j=i:=by rw [←h5,h2]
  subst this
  exact ⟨h3,h6,by rw [←h4];exact h1⟩
 have hFl:∀ i,i∈F.map ix→∀ k:Nat,(k:Int)<c.keys→i ∉ G.ls k:=fun i hi k hk=>by
  obtain ⟨h1,h2,h3⟩:=hFx i hi
  have:=(H.lm _ ((hFm _).1 h3).1).2 k hk
  rwa [A.g.ixh h1] at this
 have hl':∀ i,i ∉ F.map ix→hl g' i=hl m.gn i:=fun i hi=>by unfold hl;rw [hg',if_neg hi]
 have hpb':∀ i,i ∉ F.map ix→(freG G F p).pb i=G.pb i:=fun i hi=>if_neg hi
 have how':∀ i,i ∉ F.map ix→(freG G F p).ow i=G.ow i:=fun i hi=>if_neg hi
 have hpbF:∀ i,i∈F.map ix→(freG G F p).pb i=none:=fun i hi=>if_pos hi
 have howF:∀ i,i∈F.map ix→(freG G F p).ow i=.fr p:=fun i hi=>if_pos hi
 have hpbs:∀ i k,(freG G F p).pb i=some k→G.pb i=some k∧i ∉ F.map ix:=fun i k h=>by
  by_cases e:i∈F.map ix
  ·rw [hpbF i e] at h;cases h
  ·rw [hpb' i e] at h;exact ⟨h,e⟩
 have hnF:∀ i o,G.ow i=o→o≠.rt p→i ∉ F.map ix:=fun i o h1 h2 h3=>h2 (by rw [←h1];exact (hFx i h3).2.1)
 have howx:∀ i o,(∀ q,o≠.fr q)→(freG G F p).ow i=o→G.ow i=o∧i ∉ F.map ix:=fun i o ho h=>by
  by_cases e:i∈F.map ix
  ·rw [howF i e] at h;exact absurd h.symm (ho p)
  ·rw [how' i e] at h;exact ⟨h,e⟩
 have hGd:∀ {q j:Nat} {h:Int} {k:Nat},(q:Int)<c.th→j≤1→Gd c m T G q j h k→Gd c {m with gn:=g'} (upd T p t') (freG G F p) q j h k:=by
  intro q j hh k hq hj g
  obtain ⟨⟨i,h1,h2,h3,h4⟩,h5,h6⟩:=g
  have hni:i ∉ F.map ix:=fun hin=>by
   obtain ⟨_,_,h7⟩:=hFx i hin
   obtain ⟨h8,h9⟩:=(hFm _).1 h7
   rw [←h2] at h8 h9
   apply h9
   rw [hf]
   unfold fndT
   rcases h6 p hp h h8 with h10 | h10
   ·split
    ·exact List.mem_append_left _ h10
    ·exact h10
   ·have h11:(T p).pos=((2*q+j:Nat):Int):=by omega
    rw [h11,show (((2*q+j:Nat):Int)).toNat=2*q+j by omega,h5,if_pos (by rw [h2];have:=A.g.pos h1;omega)]
    simp
  refine ⟨⟨i,h1,?_,h3,?_⟩,h5,h6.up h5 (by rw [h2];have:=A.g.pos h1;omega) hp (.no (by omega))⟩
  ·show hh=hl g' i;rw [hl' i hni];exact h2
  ·rw [hpb' i hni];exact h4
 refine ⟨⟨fun i hi=>?_,fun k hk=>?_,fun k hk i hi=>?_,fun i k hi=>A.g.pk i k (hpbs i k hi).1,fun i k hi=>A.g.pl i k (hpbs i k hi).1,A.g.so,A.g.sx,fun k i hk hi=>?_,fun k i hi ho=>A.g.ho k i hi (howx i _ (fun q x=>by cases x) ho).1,fun i hi=>?_,fun i q hi ho=>?_,fun i q hi ho=>A.g.op i q hi (howx i _ (fun q x=>by cases x) ho).1,fun i q hi ho=>A.g.or i q hi (howx i _ (fun q x=>by cases x) ho).1,fun i j h1 h2 h3=>?_,fun i hi=>?_,A.g.a0⟩,fun q hq=>?_⟩
 ·obtain ⟨h1,h2,h3⟩:=A.g.gn i hi
  have:=hlt i hi
  refine ⟨h1,?_⟩
  dsimp only
  rw [hg']
  split <;> omega
 ·refine Ch.congr (m:=m) (fun i hi=>?_) (fun i hi=>rfl) (A.g.ch k hk)
  exact hl' i (fun e=>hFl i e k hk hi)
 ·rw [hpb' i (fun e=>hFl i e k hk hi)];exact A.g.lp k hk i hi
 ·obtain ⟨h1,h2⟩:=A.g.oh k i hk hi
  rw [how' i (hnF i _ h1 (fun x=>by cases x))]
  exact ⟨h1,h2⟩
 ·by_cases e:i∈F.map ix
  ·rw [howF i e]
   have:=A.g.o1 i hi
   rw [(hFx i e).2.1] at this
   exact ⟨fun x=>(by cases x),fun x=>(by have:=this.2 x;cases this)⟩
  ·rw [how' i e];exact A.g.o1 i hi
 ·by_cases e:i∈F.map ix
  ·rw [howF i e] at ho;injection ho with ho;rw [←ho];exact hp
  ·rw [how' i e] at ho;exact A.g.of i q hi ho
 ·refine A.g.si i j (fun e=>h1 ?_) (fun e=>h2 ?_) h3
  ·by_cases ei:i∈F.map ix
   ·exact hpbF i ei
   ·rw [hpb' i ei];exact e
  ·by_cases ei:j∈F.map ix
   ·exact hpbF j ei
   ·rw [hpb' j ei];exact e
 ·by_cases e:i∈F.map ix
  ·rw [hpbF i e,howF i e]
   exact ⟨fun x=>absurd rfl x,fun x=>by rcases x with ⟨_,x⟩ | ⟨_,x⟩ <;> cases x⟩
  ·rw [hpb' i e,how' i e];exact A.g.ob i hi
 ·by_cases eq:q=p
  ·subst eq
   rw [upd_s]
   have hp1:pend t'=[]:=pend_no (by omega)
   have hp2:pend (T q)=[]:=pend_no (by omega)
   have hnw:¬wlk (T q):=fun x=>by have:=x.2.1;omega
   have hnw2:¬wlk t':=fun x=>by have:=x.1;omega
   have hsub:List.Sublist (Rt t') (Rt (T q)):=by
    unfold Rt
    rw [hp1,hp2,q2,q3,q4]
    exact List.Sublist.append (List.Sublist.refl _) (List.Sublist.append (List.Sublist.refl _) (List.Sublist.append (List.Sublist.refl _) List.filter_sublist))
   have hr1:=H.r1
   have hRt:Rt (T q)=((T q).buf.map Ent.h++(T q).work.map Ent.h)++(T q).limbo:=by unfold Rt;rw [hp2];simp
   have hRt':Rt t'=((T q).buf.map Ent.h++(T q).work.map Ent.h)++(T q).limbo.filter fun h=>f.contains h:=by unfold Rt;rw [hp1,q2,q3,q4];simp
   rw [hRt] at hr1
   obtain ⟨n1,n2,n3⟩:=List.nodup_append.1 hr1
   refine ⟨?_,fun x hx=>?_,fun i hi ho=>?_,fun x=>by omega,fun i hi ho=>?_,hsub.nodup (by rw [hRt];exact hr1),fun x hx=>?_,fun i hi ho=>?_,fun x hx=>?_,fun x=>absurd x hnw2,fun x hx=>?_,fun x=>absurd x hnw2,fun x=>absurd x hnw2,fun x=>by omega,fun x=>by omega,fun x=>by omega,fun x=>by omega,fun x=>by omega,fun x=>by omega,fun x=>by omega,fun x=>by omega,fun x=>by omega,fun x=>by omega,fun x=>by omega,fun x=>by omega⟩
   ·rw [q1]
    refine List.nodup_append.2 ⟨H.f1,?_,fun x hx y hy e=>?_⟩
    ·have hFn:F.Nodup:=by rw [hF];exact n2.filter _
     refine (List.pairwise_map.2 ?_)
     refine hFn.imp_of_mem fun {a b} ha hb hab e=>hab ?_
     obtain ⟨i,i1,i2,_,i3,_⟩:=hFi a ha
     obtain ⟨j,j1,j2,_,j3,_⟩:=hFi b hb
     rw [i2,j2,show i=j by omega]
    ·obtain ⟨i,h1,h2,h3⟩:=H.f2 x hx
     obtain ⟨h4,h5,h6⟩:=List.mem_map.1 hy
     obtain ⟨j,_,_,_,j3,j4⟩:=hFi h4 h5
     rw [show j=i by omega,h3] at j4
     cases j4
   ·rw [q1] at hx
    rcases List.mem_append.1 hx with hx | hx
    ·obtain ⟨i,h1,h2,h3⟩:=H.f2 x hx
     exact ⟨i,h1,h2,by rw [how' i (hnF i _ h3 (fun x=>by cases x))];exact h3⟩
    ·obtain ⟨h4,h5,h6⟩:=List.mem_map.1 hx
     obtain ⟨j,j1,_,j2,j3,j4⟩:=hFi h4 h5
     exact ⟨j,j1,by omega,howF j (by rw [←j2];exact List.mem_map_of_mem h5)⟩
   ·rw [q1]
    by_cases e:i∈F.map ix
    ·obtain ⟨h4,h5,h6⟩:=List.mem_map.1 e
     obtain ⟨j,j1,_,j2,j3,j4⟩:=hFi h4 h5
     refine List.mem_append_right _ (List.mem_map.2 ⟨h4,h5,by omega⟩)
    ·rw [how' i e] at ho
     exact List.mem_append_left _ (H.f3 i hi ho)
   ·have:=(H.p3 i hi (howx i _ (fun q x=>by cases x) ho).1).1;omega
   ·have hx2:=hsub.subset hx
    obtain ⟨i,h1,h2,h3,h4⟩:=H.r2 x hx2
    have hni:i ∉ F.map ix:=fun e=>by
     obtain ⟨_,_,h5⟩:=hFx i e
     rw [←h2] at h5
     obtain ⟨h6,h7⟩:=(hFm x).1 h5
     rw [hRt'] at hx
     rcases List.mem_append.1 hx with hx | hx
     ·exact n3 x hx x h6 rfl
     ·have:=(List.mem_filter.1 hx).2
      exact h7 (by simpa using this)
    exact ⟨i,h1,by show x=hl g' i;rw [hl' i hni];exact h2,h3,by rw [how' i hni];exact h4⟩
   ·obtain ⟨h1,h2⟩:=howx i _ (fun q x=>by cases x) ho
    have h3:=H.r3 i hi h1
    show hl g' i∈Rt t'
    rw [hl' i h2,hRt']
    rw [hRt] at h3
    rcases List.mem_append.1 h3 with h3 | h3
    ·exact List.mem_append_left _ h3
    ·refine List.mem_append_right _ (List.mem_filter.2 ⟨h3,?_⟩)
     have h4:hl m.gn i ∉ F:=fun x=>h2 (by
      have:=List.mem_map_of_mem (f:=ix) x
      rwa [A.g.ixh hi] at this)
     refine Classical.byContradiction fun h5=>h4 ((hFm _).2 ⟨h3,fun h6=>h5 (by simpa using h6)⟩)
   ·refine H.lk x ?_
    unfold LKs at hx ⊢
    rw [hp1,if_neg hnw2,q3,q4] at hx
    rw [hp2,if_neg hnw];exact hx
   ·rw [q2] at hx
    exact H.lm x (List.mem_filter.1 hx).1
  ·rw [upd_n eq]
   have H2:=A.t q hq
   have hno:∀ i,G.ow i=.rt q→i ∉ F.map ix:=fun i hi=>hnF i _ hi (fun x=>by injection x with x;exact eq x)
   refine ⟨H2.f1,fun x hx=>?_,fun i hi ho=>?_,fun x=>?_,fun i hi ho=>?_,H2.r1,fun x hx=>?_,fun i hi ho=>?_,H2.lk,fun x=>?_,H2.lm,H2.w1,H2.w2,H2.w3,H2.w4,fun x=>hGd hq (by omega) (H2.g0 x),fun x y=>hGd hq (by omega) (H2.gp x y),fun x y=>hGd hq (by omega) (H2.gc x y),fun x=>hGd hq (by omega) (H2.gn x),H2.z0,H2.z1,H2.nz,H2.pu,H2.rd,H2.nr⟩
   ·obtain ⟨i,h1,h2,h3⟩:=H2.f2 x hx
    exact ⟨i,h1,h2,by rw [how' i (hnF i _ h3 (fun x=>by cases x))];exact h3⟩
   ·by_cases e:i∈F.map ix
    ·rw [howF i e] at ho;injection ho with ho;exact absurd ho.symm eq
    ·rw [how' i e] at ho;exact H2.f3 i hi ho
   ·obtain ⟨i,h1,h2,h3,h4⟩:=H2.p2 x
    have hni:=hnF i _ h4 (fun x=>by cases x)
    exact ⟨i,h1,by show _=hl g' i;rw [hl' i hni];exact h2,h3,by rw [how' i hni];exact h4⟩
   ·obtain ⟨h1,h2⟩:=howx i _ (fun q x=>by cases x) ho
    obtain ⟨h3,h4⟩:=H2.p3 i hi h1
    exact ⟨h3,by show _=hl g' i;rw [hl' i h2];exact h4⟩
   ·obtain ⟨i,h1,h2,h3,h4⟩:=H2.r2 x hx
    exact ⟨i,h1,by show _=hl g' i;rw [hl' i (hno i h4)];exact h2,h3,by rw [how' i (hno i h4)];exact h4⟩
   ·obtain ⟨h1,h2⟩:=howx i _ (fun q x=>by cases x) ho
    show hl g' i∈_
    rw [hl' i h2];exact H2.r3 i hi h1
   ·obtain ⟨h1,h2,h3⟩:=H2.wm x
    obtain ⟨e,he,he2,_⟩:=tgt_mem h1
    obtain ⟨i,_,_,h4,h5⟩:=H2.r2 _ (Rt_work he)
    rw [he2] at h4
    refine ⟨h1,h2,?_⟩
    rw [h4,hpb' i (hno i h5),←h4];exact h3
end
end Go.Proofs.YtbploohjimpcaaaGreat.A
