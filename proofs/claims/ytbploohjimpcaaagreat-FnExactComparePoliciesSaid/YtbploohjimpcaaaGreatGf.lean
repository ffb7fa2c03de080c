/- What the program's functions answer (Gf): no condition. -/
import Derived.Test.YtbploohjimpcaaaGreatGea
import Derived.Test.YtbploohjimpcaaaGreatGe
set_option linter.unusedVariables false
set_option linter.unusedSimpArgs false
namespace Go.Proofs.YtbploohjimpcaaaGreat.A
open Go Go.Abs
set_option maxRecDepth 100000
def app (st:NC) (E:List Int):NC:=E.foldl (fun st c=>(st.1+1,c)) st
def evIf (b:Bool) (c:Int):List Int:=if b=true then [c] else []
theorem Xli {st:NC} {b:Bool} {c:Int}:hit st b c=app st (evIf b c):=by
 unfold hit evIf;split <;> rfl
theorem Xik {st:NC} {E E':List Int}:app (app st E) E'=app st (E++E'):=by
 unfold app;rw [List.foldl_append]
theorem Xcq {α:Type} {g:NC→α→NC} {e:α→List Int} (h:∀ st x,g st x=app st (e x)):∀ (l:List α) (st:NC),l.foldl g st=app st (l.flatMap e)
 | [],st=>rfl
 | x::l,st=>by
   rw [List.foldl_cons,h,Xcq h l,Xik,List.flatMap_cons]
def evT (i:Int) (t:Th):List Int:=t.free.flatMap (fun x=>evIf (x==i) 1)++(t.limbo.flatMap (fun x=>evIf (idxB x==i) 5)++evIf (prvI i t) 2)
def evW (i:Int) (t:Th):List Int:=t.work.flatMap fun e=>evIf (idxB e.h==i) 4
theorem Xpc {i:Int} {st:NC} {t:Th}:Xfv i st t=app st (evT i t):=by
 unfold Xfv evT
 rw [Xcq (g:=evF i 1) (e:=fun x=>evIf (x==i) 1) (fun _ _=>Xli),Xcq (g:=evH i 5) (e:=fun x=>evIf (idxB x==i) 5) (fun _ _=>Xli),Xli,Xik,Xik]
theorem Xpd {i:Int} {st:NC} {t:Th}:Xii i st t=app st (evW i t):=by
 unfold Xii evW
 exact Xcq (g:=evE i 4) (e:=fun e=>evIf (idxB e.h==i) 4) (fun _ _=>Xli) _ _
def Xd1 (lk:Bool) (i:Int) (st:NC) (t:Th):NC:=if lk=true then Xfv i st t else Xii i (Xfv i st t) t
theorem Xqm {st:NC}:∀ (E:List Int),(app st E).1=st.1+E.length:=by
 intro E
 induction E generalizing st with
 | nil=>simp [app]
 | cons c E ih =>
   show (app (st.1+1,c) E).1=_
   rw [ih,List.length_cons]
   show st.1+1+(E.length:Int)=_
   omega
theorem Xv3 {i:Int}:∀ (l:List Th),(l.flatMap (evT i)++l.flatMap (evW i)).Perm (l.flatMap fun t=>evT i t++evW i t)
 | []=>List.Perm.refl _
 | t::l=>by
   simp only [List.flatMap_cons]
   have ih:=Xv3 (i:=i) l
   refine List.Perm.trans ?_ (List.Perm.append_left (evT i t++evW i t) ih)
   simp only [List.append_assoc]
   refine List.Perm.append_left _ ?_
   rw [←List.append_assoc,←List.append_assoc]
   exact List.Perm.append_right _ List.perm_append_comm
theorem Xz1 {s:Sta} {i:Int} (h:Xa6 s i=false):(cntV s i).1=(s.ths.foldl (Xd1 false i) (0,0)).1∧((cntV s i).1=1→(cntV s i).2=(s.ths.foldl (Xd1 false i) (0,0)).2):=by
 have e1:cntV s i=app (0,0) (s.ths.flatMap (evT i)++s.ths.flatMap (evW i)):=by
  unfold cntV finC
  rw [if_neg (by rw [h];simp),Xcq (g:=Xii i) (e:=evW i) (fun _ _=>Xpd),Xcq (g:=Xfv i) (e:=evT i) (fun _ _=>Xpc),Xik]
 have e2:s.ths.foldl (Xd1 false i) (0,0)=app (0,0) (s.ths.flatMap fun t=>evT i t++evW i t):=by
  refine Xcq (fun st t=>?_) _ _
  show Xii i (Xfv i st t) t=_
  rw [Xpd,Xpc,Xik]
 have hp:=Xv3 (i:=i) s.ths
 rw [e1,e2]
 refine ⟨by rw [Xqm,Xqm,hp.length_eq],fun h1=>?_⟩
 rw [Xqm] at h1
 have hl:(s.ths.flatMap (evT i)++s.ths.flatMap (evW i)).length=1:=by
  have:((0:Int),(0:Int)).1=0:=rfl
  omega
 obtain ⟨c,hc⟩:=List.length_eq_one_iff.1 hl
 rw [hc] at hp ⊢
 rw [List.perm_singleton.1 hp.symm]
theorem Xud {s:Sta} {i:Int} (h:Xa6 s i=true):cntV s i=((s.ths.foldl (Xd1 true i) (0,0)).1+1,3):=by
 unfold cntV finC
 rw [if_pos h]
 rfl
theorem map_set {n j:Nat} {f:Nat→List AV} {y:List AV} (h:j<n):((List.range n).map f).set j y=(List.range n).map fun i=>if i=j then y else f i:=by
 apply List.ext_getElem
 ·simp
 ·intro i h1 h2
  simp only [List.getElem_set,List.getElem_map,List.getElem_range]
  by_cases e:j=i
  ·subst e;simp
  ·rw [if_neg e,if_neg (fun h=>e h.symm)]
theorem Xqn {n:Nat} {z:List AV}:List.replicate n z=(List.range n).map fun _=>z:=by
 apply List.ext_getElem
 ·simp
 ·intro i h1 h2;simp
theorem Z3 {n j:Nat} {f:Nat→List AV} (h:j<n):((List.range n).map f)[j]?=some (f j):=by simp [h]
theorem Ue {n:Nat} {j:Int} {f:Nat→List AV} (h:j<(n:Int)):decide (j<(((List.range n).map f).length:Int))=true:=by
 rw [List.length_map,List.length_range];exact decide_eq_true h
abbrev plR (n:Nat) (σ:Nat→NC):List (List AV):=(List.range n).map fun i=>iA (σ i).1
abbrev laR (n:Nat) (σ:Nat→NC):List (List AV):=(List.range n).map fun i=>iA (σ i).2
abbrev lkR (n:Nat) (κ:Nat→Bool):List (List AV):=(List.range n).map fun i=>[AV.bool (κ i)]
def W4 (σ:Nat→NC) (j:Nat) (c:Int):Nat→NC:=fun i=>if i=j then ((σ i).1+1,c) else σ i
theorem Xgh {n j:Nat} {σ:Nat→NC} {c:Int} (h:j<n):(plR n σ).set j [.int .i64 ((σ j).1+1)]=plR n (W4 σ j c):=by
 rw [map_set h]
 apply List.map_congr_left
 intro i _
 unfold W4
 by_cases e:i=j
 ·subst e;simp
 ·simp [e]
theorem Xgi {n j:Nat} {σ:Nat→NC} {c:Int} (h:j<n):(laR n σ).set j [.int .i64 c]=laR n (W4 σ j c):=by
 rw [map_set h]
 apply List.map_congr_left
 intro i _
 unfold W4
 by_cases e:i=j
 ·subst e;simp
 ·simp [e]
theorem X4q {n j:Nat} {κ:Nat→Bool} (h:j<n):(lkR n κ).set j [.bool true]=lkR n (fun i=>if i=j then true else κ i):=by
 rw [map_set h]
 apply List.map_congr_left
 intro i _
 by_cases e:i=j
 ·subst e;simp
 ·simp [e]
def finI (s:Sta) (i:Nat) (st:NC):Int:=if st.1=1∧(i:Int)<cl s 1 then st.2 else if st.1=0∧¬(i:Int)<cl s 1 then 0 else 6
def lkI (b:Bool) (st:NC):NC:=if b=true then (st.1+1,3) else st
def clsR (s:Sta) (f:Nat→Int):List (List AV):=(List.range s.c.cap.toNat).map fun i=>iA (f i)
abbrev endK (s:Sta) (κ:Nat→Bool) (i:Nat):Int:=finI s i (lkI (κ i) (s.ths.foldl (Xd1 (κ i) i) (0,0)))
theorem Ys {s:Sta} {f g:Nat→Int} (h:∀ i,i<s.c.cap.toNat→f i=g i):clsR s f=clsR s g:=by
 unfold clsR
 apply List.map_congr_left
 intro i hi
 rw [h i (List.mem_range.1 hi)]
theorem okL {l m:List (List AV)} (h:l=m):some (⟨.lst 1 l,[]⟩:Res)=some ⟨.lst 1 m,[]⟩:=by rw [h]
theorem Xlj {σ:Nat→NC} {x:Int} {c:Int} {i:Nat} (h:0≤x):W4 σ x.toNat c i=hit (σ i) (x==(i:Int)) c:=by
 unfold W4
 by_cases e:i=x.toNat
 ·rw [if_pos e,Xsr (by subst e;simp;omega)]
 ·rw [if_neg e,Xij (by simp;omega)]
theorem X4r {κ:Nat→Bool} {x:Int} {i:Nat} (h:0≤x):(if i=x.toNat then true else κ i)=(κ i||(x==(i:Int))):=by
 by_cases e:i=x.toNat
 ·rw [if_pos e];subst e;simp;right;omega
 ·rw [if_neg e]
  have:(x==(i:Int))=false:=by simp;omega
  rw [this,Bool.or_false]
theorem Xz2 {c:Cf} {t:Th} (h:thB c t=true):lnkB c t.node=true∧(∀ x∈t.free,0≤x∧x<c.cap)∧(∀ x∈t.limbo,Y4 c x=true)∧∀ e∈t.work,Y4 c e.h=true:=by
 unfold thB at h
 simp only [Bool.and_eq_true] at h
 obtain ⟨⟨⟨⟨⟨⟨⟨⟨⟨_,_⟩,_⟩,h4⟩,_⟩,_⟩,_⟩,h8⟩,h9⟩,h10⟩:=h
 unfold Xdh at h4
 simp only [Bool.and_eq_true] at h4
 refine ⟨h4.1.1.1,fun x hx=>?_,fun x hx=>?_,fun e he=>?_⟩
 ·unfold fB at h9
  have:=List.all_eq_true.1 h9 x hx
  unfold inB at this
  simp only [Bool.and_eq_true,decide_eq_true_eq] at this
  omega
 ·exact List.all_eq_true.1 h10 x hx
 ·unfold Xm0 at h8
  simp only [Bool.and_eq_true] at h8
  have:=List.all_eq_true.1 h8.2 e he
  simp only [Wh,Bool.and_eq_true] at this
  exact this.2
theorem Xz3 {c:Cf} {h:Int} (hl:lnkB c h=true) (h0:(h !=0)=true):Y4 c h=true:=by
 unfold lnkB at hl
 rcases Bool.or_eq_true_iff.1 hl with h1 | h1
 ·have:=of_decide_eq_true h1;subst this;simp at h0
 ·exact (Bool.and_eq_true_iff.1 h1).1
theorem X2m {s:Sta} {i:Nat}:endK s (fun i=>Xa6 s i) i=clsS s i:=by
 unfold endK clsS finI lkI
 dsimp only
 by_cases hl:Xa6 s i=true
 ·have e:=Xud hl
  rw [if_pos hl,e,hl]
  generalize (List.foldl (Xd1 true i) (0,0) s.ths)=p
  by_cases hb:(i:Int)<cl s 1
  ·rw [if_neg (by omega:¬(i:Int)≥cl s 1)]
   by_cases h1:p.1+1=1
   ·rw [if_pos ⟨h1,hb⟩,if_pos h1]
   ·rw [if_neg (fun h=>h1 h.1),if_neg (fun h=>h.2 hb),if_neg h1]
  ·rw [if_pos (by omega:(i:Int)≥cl s 1),if_neg (fun h=>hb h.2)]
   by_cases h1:p.1+1=0
   ·rw [if_pos ⟨h1,hb⟩,if_pos h1]
   ·rw [if_neg (fun h=>h1 h.1),if_neg h1]
 ·replace hl:Xa6 s i=false:=by simpa only [Bool.not_eq_true] using hl
  obtain ⟨e1,e2⟩:=Xz1 (s:=s) hl
  simp only [hl,Bool.false_eq_true,if_false]
  rw [e1] at e2 ⊢
  generalize (List.foldl (Xd1 false i) (0,0) s.ths)=p at e1 e2 ⊢
  by_cases hb:(i:Int)<cl s 1
  ·rw [if_neg (by omega:¬(i:Int)≥cl s 1)]
   by_cases h1:p.1=1
   ·rw [if_pos ⟨h1,hb⟩,if_pos h1,e2 h1]
   ·rw [if_neg (fun h=>h1 h.1),if_neg (fun h=>h.2 hb),if_neg h1]
  ·rw [if_pos (by omega:(i:Int)≥cl s 1),if_neg (fun h=>hb h.2)]
   by_cases h1:p.1=0
   ·rw [if_pos ⟨h1,hb⟩,if_pos h1]
   ·rw [if_neg (fun h=>h1 h.1),if_neg h1]
theorem Xlk {α β:Type} {b:Bool} {g:β→α→β}:∀ {l:List α} {st:β},l.foldl (fun st e=>if b=true then st else g st e) st=if b=true then st else l.foldl g st
 | [],st=>by split <;> rfl
 | a::l,st=>by
   rw [List.foldl_cons,Xlk]
   split <;> rfl
theorem Xz4 {κ:Nat→Bool} {st:NC} {e:Ent} {i:Nat} (h0:0≤idxB e.h) (h:κ (idxB e.h).toNat=true):(if κ i=true then st else evE (i:Int) 4 st e)=st:=by
 by_cases hk:κ i=true
 ·rw [if_pos hk]
 ·rw [if_neg hk]
  unfold evE
  rw [Xij]
  simp only [beq_eq_false_iff_ne,ne_eq]
  intro e2
  exact hk (by rw [←h,e2];simp)
theorem Xz5 {κ:Nat→Bool} {σ:Nat→NC} {e:Ent} {i:Nat} (h0:0≤idxB e.h) (h:κ (idxB e.h).toNat=false):W4 σ (idxB e.h).toNat 4 i=(if κ i=true then σ i else evE (i:Int) 4 (σ i) e):=by
 by_cases hk:κ i=true
 ·rw [if_pos hk]
  unfold W4
  rw [if_neg (fun e2=>by rw [e2,h] at hk;cases hk)]
 ·rw [if_neg hk,Xlj h0]
  rfl
def setS (σ:Nat→NC) (j:Nat) (p:NC):Nat→NC:=fun i=>if i=j then p else σ i
theorem Xby {σ:Nat→NC} {j i:Nat} {p:NC} (h:i≠j):setS σ j p i=σ i:=by unfold setS;rw [if_neg h]
theorem Xil {n j:Nat} {σ:Nat→NC} {p:NC} (h:j<n):(plR n σ).set j [.int .i64 p.1]=plR n (setS σ j p):=by
 rw [map_set h]
 apply List.map_congr_left
 intro i _
 unfold setS
 by_cases e:i=j
 ·subst e;simp
 ·simp [e]
theorem Xbz {n j:Nat} {σ:Nat→NC} {p:NC} (h:j<n):(laR n σ).set j [.int .i64 p.2]=laR n (setS σ j p):=by
 rw [map_set h]
 apply List.map_congr_left
 intro i _
 unfold setS
 by_cases e:i=j
 ·subst e;simp
 ·simp [e]
theorem Xll {n j:Nat} {σ:Nat→NC} {c:Int}:plR n (setS σ j ((σ j).1,c))=plR n σ:=by
 apply List.map_congr_left
 intro i _
 unfold setS
 by_cases e:i=j
 ·subst e;simp
 ·simp [e]
theorem Uj {s:Sta} {κ:Nat→Bool} {σ σ2:Nat→NC} {j:Nat} (h1:∀ i,i≠j→σ2 i=σ i) (h2:(σ2 j).2=finI s j (lkI (κ j) (σ j))) (i:Nat):(if i<j+1 then (σ2 i).2 else finI s i (lkI (κ i) (σ2 i)))=if i<j then (σ i).2 else finI s i (lkI (κ i) (σ i)):=by
 by_cases e:i=j
 ·subst e;rw [if_pos (by omega),if_neg (by omega),h2]
 ·rw [h1 i e]
  by_cases h:i<j
  ·rw [if_pos (by omega),if_pos h]
  ·rw [if_neg (by omega),if_neg h]
set_option maxHeartbeats 8000000 in
theorem Xm3 {n:Nat} {s:Sta} (hs:staB s=true) (hr:s.room) (hi:s.i64):callP cfg (n+6) 137 [.pv (staA s)]=some ⟨.lst 1 (clsR s fun i=>clsS s i),[]⟩:=by
 rw [Xa]
 obtain ⟨hc,m1,m2,m3,_,_,_,hth⟩:=Zx hs
 have hb:=Xm hc
 have e0:decide (0≤s.c.cap)=true:=decide_eq_true (by omega)
 have e1:decide (s.c.cap≤s.c.cap)=true:=decide_eq_true (by omega)
 have e2:decide (s.c.cap.toNat*ty3.bytes≤Yf)=true:=decide_eq_true (by show _*8≤140737488355328;omega)
 have e3:decide (s.c.cap.toNat*ty4.bytes≤Yf)=true:=decide_eq_true (by show _*1≤140737488355328;omega)
 refine goD ?_
 clear e0 e1 e2 e3
 refine (X9 (fun e (x:Nat×(Nat→Bool))=>e.set 39 (.int .i64 (x.1:Int))) (fun h x=>h.set 8 (some ⟨false,false,false,1,lkR s.c.cap.toNat x.2⟩)) (fun x=>some ⟨.lst 1 (clsR s fun i=>endK s (fun i=>x.2 i||((List.range s.c.keys.toNat).drop x.1).any fun k=>(Vy s k).any fun h=>idxB h==(i:Int)) i),[]⟩) (fun x=>x.1≤s.c.keys.toNat) (fun x=>s.c.keys.toNat - x.1) (0,fun _=>false) (by rw [show lkR s.c.cap.toNat (fun _=>false)=List.replicate s.c.cap.toNat ty4.zero from Xqn.symm];rfl) (Nat.zero_le _) (by show _ - _<18446744073709551616;omega) ?_).trans (okL (Ys fun i hi'=>?_))
 rotate_left
 ·rw [←X2m]
  simp only [List.drop_zero,Bool.false_or]
  rfl
 rintro ⟨k,κ⟩ f hk IH
 simp only at hk ⊢
 by_cases hlt:k<s.c.keys.toNat
 ·have e5:decide ((k:Int)<s.c.keys)=true:=decide_eq_true (by omega)
  have hw:=Xv (k:=k) (by omega)
  have hL:=Xm2 (s:=s) s.c.cap.toNat (h:=unmk (cl s (X2 s.c k)))
  have fq1:=fun {n:Nat}=>Xnv (n:=n) hs hr hi hlt
  refine go ?_
  clear fq1
  refine (X9 (fun e (x:Nat×(Nat→Bool))=>e.set 46 (.int .i64 (x.1:Int))) (fun h x=>h.set 8 (some ⟨false,false,false,1,lkR s.c.cap.toNat x.2⟩)) (fun x=>some ⟨.lst 1 (clsR s fun i=>endK s (fun i=>(x.2 i||((Vy s k).drop x.1).any fun h=>idxB h==(i:Int))||((List.range s.c.keys.toNat).drop (k+1)).any fun k=>(Vy s k).any fun h=>idxB h==(i:Int)) i),[]⟩) (fun x=>x.1≤(Vy s k).length) (fun x=>(Vy s k).length - x.1) (0,κ) rfl (Nat.zero_le _) (by show _ - _<18446744073709551616;unfold Vy;omega) ?_).trans (okL (Ys fun i hi'=>?_))
  rotate_left
  ·simp only [List.drop_zero,Vt hlt,List.any_cons,Bool.or_assoc]
  clear hk
  rintro ⟨j,κ⟩ f' hj IH2
  simp only at hj ⊢
  by_cases hlj:j<(Vy s k).length
  ·have d1:decide ((j:Int)<(((Ub s s.c.cap.toNat (unmk (cl s (X2 s.c k)))).map iA).length:Int))=true:=Xf (f:=iA) hlj
   have d2:=Xg j
   have r1:((Ub s s.c.cap.toNat (unmk (cl s (X2 s.c k)))).map iA)[j]?=some (iA ((Vy s k).getD j default)):=Xe (f:=iA) hlj
   have hwj:=Xv (k:=j) (by unfold Vy at hlj;omega)
   obtain ⟨hm,hcu⟩:=Xsq hs hi hlt _ (Xi hlj)
   have hjr:=Y3 (Xfu hcu)
   have hjn:(idxB ((Vy s k).getD j default)).toNat<s.c.cap.toNat:=by omega
   have f1:decide (0≤idxB ((Vy s k).getD j default))=true:=decide_eq_true hjr.1
   have f2:decide (idxB ((Vy s k).getD j default)<((lkR s.c.cap.toNat κ).length:Int))=true:=Ue (by omega)
   have r2:(lkR s.c.cap.toNat κ)[(idxB ((Vy s k).getD j default)).toNat]?=some [AV.bool (κ (idxB ((Vy s k).getD j default)).toNat)]:=Z3 hjn
   have st1:=r2
   have fq1:=fun {n:Nat}=>Yo (n:=n) hm
   refine go ?_
   clear st1 fq1
   try with_reducible rfl
   refine (IH2 (j+1,fun i=>if i=(idxB ((Vy s k).getD j default)).toNat then true else κ i) _ _ hlj (by show _ - _<_ - _;omega) (by rw [hwj];rfl) (by rw [X4q hjn];rfl)).trans (okL (Ys fun i hi'=>?_))
   simp only [X4r hjr.1,Xq hlj,List.any_cons,Bool.or_assoc]
  ·have d1:decide ((j:Int)<(((Ub s s.c.cap.toNat (unmk (cl s (X2 s.c k)))).map iA).length:Int))=false:=Xh (f:=iA) (Nat.le_of_not_lt hlj)
   have hj2:(Vy s k).drop j=[]:=List.drop_eq_nil_of_le (by omega)
   simp only [hj2,List.any_nil,Bool.or_false]
   refine go ?_
   try with_reducible rfl
   exact IH (k+1,κ) _ _ hlt (by show _ - _<_ - _;omega) (by rw [hw];rfl) rfl
 ·have e5:decide ((k:Int)<s.c.keys)=false:=decide_eq_false (by omega)
  have hk2:(List.range s.c.keys.toNat).drop k=[]:=List.drop_eq_nil_of_le (by rw [List.length_range];omega)
  simp only [hk2,List.any_nil,Bool.or_false]
  clear IH
  refine go ?_
  refine (X9 (fun e (x:Nat×(Nat→NC))=>e.set 61 (.int .i64 (x.1:Int))) (fun h x=>(h.set 9 (some ⟨false,false,true,1,[[.lst 1 (plR s.c.cap.toNat x.2)]]⟩)).set 10 (some ⟨false,false,true,1,[[.lst 1 (laR s.c.cap.toNat x.2)]]⟩)) (fun x=>some ⟨.lst 1 (clsR s fun i=>finI s i (lkI (κ i) ((s.ths.drop x.1).foldl (Xd1 (κ i) i) (x.2 i)))),[]⟩) (fun x=>x.1≤s.ths.length∧∀ i,0≤(x.2 i).1∧(x.2 i).1≤4194304*(x.1:Int)) (fun x=>s.ths.length - x.1) (0,fun _=>(0,0)) (by rw [show plR s.c.cap.toNat (fun _=>(0,0))=List.replicate s.c.cap.toNat ty3.zero from Xqn.symm,show laR s.c.cap.toNat (fun _=>(0,0))=List.replicate s.c.cap.toNat ty3.zero from Xqn.symm];rfl) ⟨Nat.zero_le _,fun i=>by show (0:Int)≤0∧(0:Int)≤_;omega⟩ (by show _ - _<18446744073709551616;omega) ?_).trans rfl
  rintro ⟨k,σ⟩ f ⟨hk,h0⟩ IH
  simp only at hk h0 ⊢
  by_cases hlt:k<s.ths.length
  ·have e1:=Xf (f:=thA) hlt
   have e2:=Xg k
   have r1:=Xe (f:=thA) hlt
   have hw:=Xv (k:=k) (by omega)
   have hk1:(k:Int)≤1048576:=by omega
   obtain ⟨g1,g2,g3,g4,g5⟩:=hr.2.2.2 _ (Xi hlt)
   obtain ⟨hnode,_,_,_,_,hwork,hlim⟩:=hi.2 _ (Xi hlt)
   obtain ⟨hfn,hff,hfl,hfw⟩:=Xz2 (List.all_eq_true.1 hth _ (Xi hlt))
   refine go ?_
   refine (X9 (fun e (x:Nat×(Nat→NC))=>e.set 68 (.int .i64 (x.1:Int))) (fun h x=>(h.set 9 (some ⟨false,false,true,1,[[.lst 1 (plR s.c.cap.toNat x.2)]]⟩)).set 10 (some ⟨false,false,true,1,[[.lst 1 (laR s.c.cap.toNat x.2)]]⟩)) (fun x=>some ⟨.lst 1 (clsR s fun i=>finI s i (lkI (κ i) ((s.ths.drop (k+1)).foldl (Xd1 (κ i) (i:Int)) (if κ i=true then (hit ((s.ths.getD k default).limbo.foldl (evH (i:Int) 5) (((s.ths.getD k default).free.drop x.1).foldl (evF (i:Int) 1) (x.2 i))) (prvI (i:Int) (s.ths.getD k default)) 2) else (s.ths.getD k default).work.foldl (evE (i:Int) 4) (hit ((s.ths.getD k default).limbo.foldl (evH (i:Int) 5) (((s.ths.getD k default).free.drop x.1).foldl (evF (i:Int) 1) (x.2 i))) (prvI (i:Int) (s.ths.getD k default)) 2))))),[]⟩) (fun x=>x.1≤(s.ths.getD k default).free.length∧∀ i,0≤(x.2 i).1∧(x.2 i).1≤4194304*(k:Int)+(x.1:Int)) (fun x=>(s.ths.getD k default).free.length - x.1) (0,σ) rfl ⟨Nat.zero_le _,fun i=>by have:=h0 i;show 0≤(σ i).1∧(σ i).1≤4194304*(k:Int)+((0:Nat):Int);omega⟩ (by show _ - _<18446744073709551616;omega) ?_).trans (okL (Ys fun i hi'=>by simp only [List.drop_zero,Xq hlt,List.foldl_cons];rfl))
   clear h0
   rintro ⟨j,σ⟩ f' ⟨hj,h0⟩ IH2
   simp only at hj h0 ⊢
   by_cases hlj:j<(s.ths.getD k default).free.length
   ·have d1:=Xf (f:=iA) hlj
    have d2:=Xg j
    have q1:=Xe (f:=iA) hlj
    have hwj:=Xv (k:=j) (by omega)
    skip
    have hjr:0≤((s.ths.getD k default).free.getD j default)∧((s.ths.getD k default).free.getD j default)<s.c.cap:=hff _ (Xi hlj)
    have hjn:(((s.ths.getD k default).free.getD j default)).toNat<s.c.cap.toNat:=by omega
    have f1:decide (0≤((s.ths.getD k default).free.getD j default))=true:=decide_eq_true hjr.1
    have f2:decide (((s.ths.getD k default).free.getD j default)<((plR s.c.cap.toNat σ).length:Int))=true:=Ue (by omega)
    have f3:decide (((s.ths.getD k default).free.getD j default)<((laR s.c.cap.toNat σ).length:Int))=true:=Ue (by omega)
    have r2:(plR s.c.cap.toNat σ)[(((s.ths.getD k default).free.getD j default)).toNat]?=some (iA (σ (((s.ths.getD k default).free.getD j default)).toNat).1):=Z3 hjn
    have r3:(laR s.c.cap.toNat σ)[(((s.ths.getD k default).free.getD j default)).toNat]?=some (iA (σ (((s.ths.getD k default).free.getD j default)).toNat).2):=Z3 hjn
    have hws:IntKind.i64.wrap ((σ (((s.ths.getD k default).free.getD j default)).toNat).1+1)=(σ (((s.ths.getD k default).free.getD j default)).toNat).1+1:=by
     have:=h0 (((s.ths.getD k default).free.getD j default)).toNat
     exact Xc (by omega) (by omega)
    have r9:=q1
    have st1:=r2
    have st2:=r3
    refine go ?_
    clear r9 st1 st2
    try with_reducible rfl
    refine (IH2 (j+1,W4 σ (((s.ths.getD k default).free.getD j default)).toNat 1) _ _ ⟨hlj,(fun i=>by
     have:=h0 i
     show 0≤(W4 σ (((s.ths.getD k default).free.getD j default)).toNat 1 i).1∧(W4 σ (((s.ths.getD k default).free.getD j default)).toNat 1 i).1≤4194304*(k:Int)+((j+1:Nat):Int)
     unfold W4
     split <;> (try simp only) <;> omega)⟩ (by show _ - _<_ - _;omega) (by rw [hwj];rfl) (by rw [hws,Xgh hjn,Xgi hjn];rfl)).trans (okL (Ys fun i hi'=>?_))
    simp only
    rw [Xlj hjr.1,Xq hlj,List.foldl_cons]
    rfl
   ·have d1:=Xh (f:=iA) (Nat.le_of_not_lt hlj)
    have hj1:(j:Int)≤1048576:=by omega
    have hj2:(s.ths.getD k default).free.drop j=[]:=List.drop_eq_nil_of_le (by omega)
    simp only [hj2,List.foldl_nil]
    clear IH2
    refine go ?_
    refine (X9 (fun e (x:Nat×(Nat→NC))=>e.set 79 (.int .i64 (x.1:Int))) (fun h x=>(h.set 9 (some ⟨false,false,true,1,[[.lst 1 (plR s.c.cap.toNat x.2)]]⟩)).set 10 (some ⟨false,false,true,1,[[.lst 1 (laR s.c.cap.toNat x.2)]]⟩)) (fun x=>some ⟨.lst 1 (clsR s fun i=>finI s i (lkI (κ i) ((s.ths.drop (k+1)).foldl (Xd1 (κ i) (i:Int)) (if κ i=true then (hit (((s.ths.getD k default).limbo.drop x.1).foldl (evH (i:Int) 5) (x.2 i)) (prvI (i:Int) (s.ths.getD k default)) 2) else (s.ths.getD k default).work.foldl (evE (i:Int) 4) (hit (((s.ths.getD k default).limbo.drop x.1).foldl (evH (i:Int) 5) (x.2 i)) (prvI (i:Int) (s.ths.getD k default)) 2))))),[]⟩) (fun x=>x.1≤(s.ths.getD k default).limbo.length∧∀ i,0≤(x.2 i).1∧(x.2 i).1≤4194304*(k:Int)+1048576+(x.1:Int)) (fun x=>(s.ths.getD k default).limbo.length - x.1) (0,σ) rfl ⟨Nat.zero_le _,fun i=>by have:=h0 i;show 0≤(σ i).1∧(σ i).1≤4194304*(k:Int)+1048576+((0:Nat):Int);omega⟩ (by show _ - _<18446744073709551616;omega) ?_).trans (okL (Ys fun i hi'=>by simp only [List.drop_zero]))
    clear h0
    rintro ⟨j,σ⟩ f' ⟨hj,h0⟩ IH2
    simp only at hj h0 ⊢
    by_cases hlj:j<(s.ths.getD k default).limbo.length
    ·have d1:=Xf (f:=iA) hlj
     have d2:=Xg j
     have q1:=Xe (f:=iA) hlj
     have hwj:=Xv (k:=j) (by omega)
     have hm:=hlim _ (Xi hlj)
     have hjr:0≤idxB ((s.ths.getD k default).limbo.getD j default)∧idxB ((s.ths.getD k default).limbo.getD j default)<s.c.cap:=Y3 (hfl _ (Xi hlj))
     have hjn:(idxB ((s.ths.getD k default).limbo.getD j default)).toNat<s.c.cap.toNat:=by omega
     have f1:decide (0≤idxB ((s.ths.getD k default).limbo.getD j default))=true:=decide_eq_true hjr.1
     have f2:decide (idxB ((s.ths.getD k default).limbo.getD j default)<((plR s.c.cap.toNat σ).length:Int))=true:=Ue (by omega)
     have f3:decide (idxB ((s.ths.getD k default).limbo.getD j default)<((laR s.c.cap.toNat σ).length:Int))=true:=Ue (by omega)
     have r2:(plR s.c.cap.toNat σ)[(idxB ((s.ths.getD k default).limbo.getD j default)).toNat]?=some (iA (σ (idxB ((s.ths.getD k default).limbo.getD j default)).toNat).1):=Z3 hjn
     have r3:(laR s.c.cap.toNat σ)[(idxB ((s.ths.getD k default).limbo.getD j default)).toNat]?=some (iA (σ (idxB ((s.ths.getD k default).limbo.getD j default)).toNat).2):=Z3 hjn
     have hws:IntKind.i64.wrap ((σ (idxB ((s.ths.getD k default).limbo.getD j default)).toNat).1+1)=(σ (idxB ((s.ths.getD k default).limbo.getD j default)).toNat).1+1:=by
      have:=h0 (idxB ((s.ths.getD k default).limbo.getD j default)).toNat
      exact Xc (by omega) (by omega)
     have r9:=q1
     have fq1:=fun {n:Nat}=>Yo (n:=n) hm
     have st1:=r2
     have st2:=r3
     refine go ?_
     clear r9 fq1 st1 st2
     try with_reducible rfl
     refine (IH2 (j+1,W4 σ (idxB ((s.ths.getD k default).limbo.getD j default)).toNat 5) _ _ ⟨hlj,(fun i=>by
      have:=h0 i
      show 0≤(W4 σ (idxB ((s.ths.getD k default).limbo.getD j default)).toNat 5 i).1∧(W4 σ (idxB ((s.ths.getD k default).limbo.getD j default)).toNat 5 i).1≤4194304*(k:Int)+1048576+((j+1:Nat):Int)
      unfold W4
      split <;> (try simp only) <;> omega)⟩ (by show _ - _<_ - _;omega) (by rw [hwj];rfl) (by rw [hws,Xgh hjn,Xgi hjn];rfl)).trans (okL (Ys fun i hi'=>?_))
     simp only
     rw [Xlj hjr.1,Xq hlj,List.foldl_cons]
     rfl
    ·have d1:=Xh (f:=iA) (Nat.le_of_not_lt hlj)
     have hj1:(j:Int)≤1048576:=by omega
     have hj2:(s.ths.getD k default).limbo.drop j=[]:=List.drop_eq_nil_of_le (by omega)
     simp only [hj2,List.foldl_nil]
     clear IH2
     by_cases v1:inB (s.ths.getD k default).pc 32 42=true
     ·by_cases v2:((s.ths.getD k default).node !=0)=true
      ·have hpv:prvB (s.ths.getD k default)=true:=by unfold prvB;rw [v1,v2];rfl
       have hjr:0≤idxB (s.ths.getD k default).node∧idxB (s.ths.getD k default).node<s.c.cap:=Y3 (Xz3 hfn v2)
       have hjn:(idxB (s.ths.getD k default).node).toNat<s.c.cap.toNat:=by omega
       have f1:decide (0≤idxB (s.ths.getD k default).node)=true:=decide_eq_true hjr.1
       have f2:decide (idxB (s.ths.getD k default).node<((plR s.c.cap.toNat σ).length:Int))=true:=Ue (by omega)
       have f3:decide (idxB (s.ths.getD k default).node<((laR s.c.cap.toNat σ).length:Int))=true:=Ue (by omega)
       have r2:(plR s.c.cap.toNat σ)[(idxB (s.ths.getD k default).node).toNat]?=some (iA (σ (idxB (s.ths.getD k default).node).toNat).1):=Z3 hjn
       have r3:(laR s.c.cap.toNat σ)[(idxB (s.ths.getD k default).node).toNat]?=some (iA (σ (idxB (s.ths.getD k default).node).toNat).2):=Z3 hjn
       have hws:IntKind.i64.wrap ((σ (idxB (s.ths.getD k default).node).toNat).1+1)=(σ (idxB (s.ths.getD k default).node).toNat).1+1:=by
        have:=h0 (idxB (s.ths.getD k default).node).toNat
        exact Xc (by omega) (by omega)
       have fq1:=@Xas
       have fq2:=fun {n:Nat}=>Yo (n:=n) hnode
       have st1:=r2
       have st2:=r3
       refine go ?_
       clear fq1 fq2 st1 st2
       refine (X9 (fun e (x:Nat×(Nat→NC))=>e.set 103 (.int .i64 (x.1:Int))) (fun h x=>(h.set 9 (some ⟨false,false,true,1,[[.lst 1 (plR s.c.cap.toNat x.2)]]⟩)).set 10 (some ⟨false,false,true,1,[[.lst 1 (laR s.c.cap.toNat x.2)]]⟩)) (fun x=>some ⟨.lst 1 (clsR s fun i=>finI s i (lkI (κ i) ((s.ths.drop (k+1)).foldl (Xd1 (κ i) (i:Int)) (((s.ths.getD k default).work.drop x.1).foldl (fun (st:NC) e=>if κ i=true then st else evE (i:Int) 4 st e) (x.2 i))))),[]⟩) (fun x=>x.1≤(s.ths.getD k default).work.length∧∀ i,0≤(x.2 i).1∧(x.2 i).1≤4194304*(k:Int)+2097153+(x.1:Int)) (fun x=>(s.ths.getD k default).work.length - x.1) (0,W4 σ (idxB (s.ths.getD k default).node).toNat 2) (by rw [hws,Xgh hjn,Xgi hjn];rfl) ⟨Nat.zero_le _,(fun i=>by
        have:=h0 i
        show 0≤(W4 σ (idxB (s.ths.getD k default).node).toNat 2 i).1∧(W4 σ (idxB (s.ths.getD k default).node).toNat 2 i).1≤4194304*(k:Int)+2097153+((0:Nat):Int)
        unfold W4
        split <;> (try simp only) <;> omega)⟩ (by show _ - _<18446744073709551616;omega) ?_).trans (okL (Ys fun i hi'=>by simp only [List.drop_zero,Xlk,Xlj hjr.1,prvI,hpv,Bool.true_and]))
       clear h0
       rintro ⟨j,σ⟩ f' ⟨hj,h0⟩ IH2
       simp only at hj h0 ⊢
       by_cases hlj:j<(s.ths.getD k default).work.length
       ·have d1:=Xf (f:=entA) hlj
        have d2:=Xg j
        have q1:=Xe (f:=entA) hlj
        have hwj:=Xv (k:=j) (by omega)
        have hm:=hwork _ (Xi hlj)
        have r4:(lkR s.c.cap.toNat κ)[(idxB ((s.ths.getD k default).work.getD j default).h).toNat]?=some [AV.bool (κ (idxB ((s.ths.getD k default).work.getD j default).h).toNat)]:=Z3 (by have:=Y3 (hfw _ (Xi hlj));omega)
        have f4:decide (idxB ((s.ths.getD k default).work.getD j default).h<((lkR s.c.cap.toNat κ).length:Int))=true:=Ue (by have:=Y3 (hfw _ (Xi hlj));omega)
        have hjr:0≤idxB ((s.ths.getD k default).work.getD j default).h∧idxB ((s.ths.getD k default).work.getD j default).h<s.c.cap:=Y3 (hfw _ (Xi hlj))
        have hjn:(idxB ((s.ths.getD k default).work.getD j default).h).toNat<s.c.cap.toNat:=by omega
        have f1:decide (0≤idxB ((s.ths.getD k default).work.getD j default).h)=true:=decide_eq_true hjr.1
        have f2:decide (idxB ((s.ths.getD k default).work.getD j default).h<((plR s.c.cap.toNat σ).length:Int))=true:=Ue (by omega)
        have f3:decide (idxB ((s.ths.getD k default).work.getD j default).h<((laR s.c.cap.toNat σ).length:Int))=true:=Ue (by omega)
        have r2:(plR s.c.cap.toNat σ)[(idxB ((s.ths.getD k default).work.getD j default).h).toNat]?=some (iA (σ (idxB ((s.ths.getD k default).work.getD j default).h).toNat).1):=Z3 hjn
        have r3:(laR s.c.cap.toNat σ)[(idxB ((s.ths.getD k default).work.getD j default).h).toNat]?=some (iA (σ (idxB ((s.ths.getD k default).work.getD j default).h).toNat).2):=Z3 hjn
        have hws:IntKind.i64.wrap ((σ (idxB ((s.ths.getD k default).work.getD j default).h).toNat).1+1)=(σ (idxB ((s.ths.getD k default).work.getD j default).h).toNat).1+1:=by
         have:=h0 (idxB ((s.ths.getD k default).work.getD j default).h).toNat
         exact Xc (by omega) (by omega)
        by_cases hv:κ (idxB ((s.ths.getD k default).work.getD j default).h).toNat=true
        ·have g1:(!κ (idxB ((s.ths.getD k default).work.getD j default).h).toNat)=false:=by rw [hv];rfl
         have r9:=q1
         have fq1:=fun {n:Nat}=>Yo (n:=n) hm
         refine go ?_
         clear r9 fq1
         try with_reducible rfl
         refine (IH2 (j+1,σ) _ _ ⟨hlj,fun i=>by have:=h0 i;show 0≤(σ i).1∧(σ i).1≤4194304*(k:Int)+2097153+((j+1:Nat):Int);omega⟩ (by show _ - _<_ - _;omega) (by rw [hwj];rfl) rfl).trans (okL (Ys fun i hi'=>?_))
         simp only
         rw [Xq hlj,List.foldl_cons,Xz4 hjr.1 hv]
        ·replace hv:κ (idxB ((s.ths.getD k default).work.getD j default).h).toNat=false:=by simpa only [Bool.not_eq_true] using hv
         have g1:(!κ (idxB ((s.ths.getD k default).work.getD j default).h).toNat)=true:=by rw [hv];rfl
         have r9:=q1
         have fq1:=fun {n:Nat}=>Yo (n:=n) hm
         have st1:=r2
         have st2:=r3
         refine go ?_
         clear r9 fq1 st1 st2
         try with_reducible rfl
         refine (IH2 (j+1,W4 σ (idxB ((s.ths.getD k default).work.getD j default).h).toNat 4) _ _ ⟨hlj,(fun i=>by
          have:=h0 i
          show 0≤(W4 σ (idxB ((s.ths.getD k default).work.getD j default).h).toNat 4 i).1∧(W4 σ (idxB ((s.ths.getD k default).work.getD j default).h).toNat 4 i).1≤4194304*(k:Int)+2097153+((j+1:Nat):Int)
          unfold W4
          split <;> (try simp only) <;> omega)⟩ (by show _ - _<_ - _;omega) (by rw [hwj];rfl) (by rw [hws,Xgh hjn,Xgi hjn];rfl)).trans (okL (Ys fun i hi'=>?_))
         simp only
         rw [Xq hlj,List.foldl_cons,Xz5 hjr.1 hv]
       ·have d1:=Xh (f:=entA) (Nat.le_of_not_lt hlj)
        have hj1:(j:Int)≤1048576:=by omega
        have hj2:(s.ths.getD k default).work.drop j=[]:=List.drop_eq_nil_of_le (by omega)
        simp only [hj2,List.foldl_nil]
        clear IH2
        refine go ?_
        try with_reducible rfl
        refine (IH (k+1,σ) _ _ ⟨hlt,fun i=>by have:=h0 i;show 0≤(σ i).1∧(σ i).1≤4194304*((k+1:Nat):Int);omega⟩ (by show _ - _<_ - _;omega) (by rw [hw];rfl) rfl).trans rfl
      ·replace v2:((s.ths.getD k default).node !=0)=false:=by simpa only [Bool.not_eq_true] using v2
       have hpf:∀ (i:Int),prvI i (s.ths.getD k default)=false:=fun i=>by unfold prvI prvB;first | (rw [v1,v2];rfl) | (rw [v1];rfl)
       have fq1:=@Xas
       refine go ?_
       clear fq1
       refine (X9 (fun e (x:Nat×(Nat→NC))=>e.set 103 (.int .i64 (x.1:Int))) (fun h x=>(h.set 9 (some ⟨false,false,true,1,[[.lst 1 (plR s.c.cap.toNat x.2)]]⟩)).set 10 (some ⟨false,false,true,1,[[.lst 1 (laR s.c.cap.toNat x.2)]]⟩)) (fun x=>some ⟨.lst 1 (clsR s fun i=>finI s i (lkI (κ i) ((s.ths.drop (k+1)).foldl (Xd1 (κ i) (i:Int)) (((s.ths.getD k default).work.drop x.1).foldl (fun (st:NC) e=>if κ i=true then st else evE (i:Int) 4 st e) (x.2 i))))),[]⟩) (fun x=>x.1≤(s.ths.getD k default).work.length∧∀ i,0≤(x.2 i).1∧(x.2 i).1≤4194304*(k:Int)+2097153+(x.1:Int)) (fun x=>(s.ths.getD k default).work.length - x.1) (0,σ) rfl ⟨Nat.zero_le _,fun i=>by have:=h0 i;show 0≤(σ i).1∧(σ i).1≤4194304*(k:Int)+2097153+((0:Nat):Int);omega⟩ (by show _ - _<18446744073709551616;omega) ?_).trans (okL (Ys fun i hi'=>by simp only [List.drop_zero,Xlk,hpf,Xij]))
       clear h0
       rintro ⟨j,σ⟩ f' ⟨hj,h0⟩ IH2
       simp only at hj h0 ⊢
       by_cases hlj:j<(s.ths.getD k default).work.length
       ·have d1:=Xf (f:=entA) hlj
        have d2:=Xg j
        have q1:=Xe (f:=entA) hlj
        have hwj:=Xv (k:=j) (by omega)
        have hm:=hwork _ (Xi hlj)
        have r4:(lkR s.c.cap.toNat κ)[(idxB ((s.ths.getD k default).work.getD j default).h).toNat]?=some [AV.bool (κ (idxB ((s.ths.getD k default).work.getD j default).h).toNat)]:=Z3 (by have:=Y3 (hfw _ (Xi hlj));omega)
        have f4:decide (idxB ((s.ths.getD k default).work.getD j default).h<((lkR s.c.cap.toNat κ).length:Int))=true:=Ue (by have:=Y3 (hfw _ (Xi hlj));omega)
        have hjr:0≤idxB ((s.ths.getD k default).work.getD j default).h∧idxB ((s.ths.getD k default).work.getD j default).h<s.c.cap:=Y3 (hfw _ (Xi hlj))
        have hjn:(idxB ((s.ths.getD k default).work.getD j default).h).toNat<s.c.cap.toNat:=by omega
        have f1:decide (0≤idxB ((s.ths.getD k default).work.getD j default).h)=true:=decide_eq_true hjr.1
        have f2:decide (idxB ((s.ths.getD k default).work.getD j default).h<((plR s.c.cap.toNat σ).length:Int))=true:=Ue (by omega)
        have f3:decide (idxB ((s.ths.getD k default).work.getD j default).h<((laR s.c.cap.toNat σ).length:Int))=true:=Ue (by omega)
        have r2:(plR s.c.cap.toNat σ)[(idxB ((s.ths.getD k default).work.getD j default).h).toNat]?=some (iA (σ (idxB ((s.ths.getD k default).work.getD j default).h).toNat).1):=Z3 hjn
        have r3:(laR s.c.cap.toNat σ)[(idxB ((s.ths.getD k default).work.getD j default).h).toNat]?=some (iA (σ (idxB ((s.ths.getD k default).work.getD j default).h).toNat).2):=Z3 hjn
        have hws:IntKind.i64.wrap ((σ (idxB ((s.ths.getD k default).work.getD j default).h).toNat).1+1)=(σ (idxB ((s.ths.getD k default).work.getD j default).h).toNat).1+1:=by
         have:=h0 (idxB ((s.ths.getD k default).work.getD j default).h).toNat
         exact Xc (by omega) (by omega)
        by_cases hv:κ (idxB ((s.ths.getD k default).work.getD j default).h).toNat=true
        ·have g1:(!κ (idxB ((s.ths.getD k default).work.getD j default).h).toNat)=false:=by rw [hv];rfl
         have r9:=q1
         have fq1:=fun {n:Nat}=>Yo (n:=n) hm
         refine go ?_
         clear r9 fq1
         try with_reducible rfl
         refine (IH2 (j+1,σ) _ _ ⟨hlj,fun i=>by have:=h0 i;show 0≤(σ i).1∧(σ i).1≤4194304*(k:Int)+2097153+((j+1:Nat):Int);omega⟩ (by show _ - _<_ - _;omega) (by rw [hwj];rfl) rfl).trans (okL (Ys fun i hi'=>?_))
         simp only
         rw [Xq hlj,List.foldl_cons,Xz4 hjr.1 hv]
        ·replace hv:κ (idxB ((s.ths.getD k default).work.getD j default).h).toNat=false:=by simpa only [Bool.not_eq_true] using hv
         have g1:(!κ (idxB ((s.ths.getD k default).work.getD j default).h).toNat)=true:=by rw [hv];rfl
         have r9:=q1
         have fq1:=fun {n:Nat}=>Yo (n:=n) hm
         have st1:=r2
         have st2:=r3
         refine go ?_
         clear r9 fq1 st1 st2
         try with_reducible rfl
         refine (IH2 (j+1,W4 σ (idxB ((s.ths.getD k default).work.getD j default).h).toNat 4) _ _ ⟨hlj,(fun i=>by
          have:=h0 i
          show 0≤(W4 σ (idxB ((s.ths.getD k default).work.getD j default).h).toNat 4 i).1∧(W4 σ (idxB ((s.ths.getD k default).work.getD j default).h).toNat 4 i).1≤4194304*(k:Int)+2097153+((j+1:Nat):Int)
          unfold W4
          split <;> (try simp only) <;> omega)⟩ (by show _ - _<_ - _;omega) (by rw [hwj];rfl) (by rw [hws,Xgh hjn,Xgi hjn];rfl)).trans (okL (Ys fun i hi'=>?_))
         simp only
         rw [Xq hlj,List.foldl_cons,Xz5 hjr.1 hv]
       ·have d1:=Xh (f:=entA) (Nat.le_of_not_lt hlj)
        have hj1:(j:Int)≤1048576:=by omega
        have hj2:(s.ths.getD k default).work.drop j=[]:=List.drop_eq_nil_of_le (by omega)
        simp only [hj2,List.foldl_nil]
        clear IH2
        refine go ?_
        try with_reducible rfl
        refine (IH (k+1,σ) _ _ ⟨hlt,fun i=>by have:=h0 i;show 0≤(σ i).1∧(σ i).1≤4194304*((k+1:Nat):Int);omega⟩ (by show _ - _<_ - _;omega) (by rw [hw];rfl) rfl).trans rfl
     ·replace v1:inB (s.ths.getD k default).pc 32 42=false:=by simpa only [Bool.not_eq_true] using v1
      have hpf:∀ (i:Int),prvI i (s.ths.getD k default)=false:=fun i=>by unfold prvI prvB;first | (rw [v1,v2];rfl) | (rw [v1];rfl)
      have fq1:=@Xas
      refine go ?_
      clear fq1
      refine (X9 (fun e (x:Nat×(Nat→NC))=>e.set 103 (.int .i64 (x.1:Int))) (fun h x=>(h.set 9 (some ⟨false,false,true,1,[[.lst 1 (plR s.c.cap.toNat x.2)]]⟩)).set 10 (some ⟨false,false,true,1,[[.lst 1 (laR s.c.cap.toNat x.2)]]⟩)) (fun x=>some ⟨.lst 1 (clsR s fun i=>finI s i (lkI (κ i) ((s.ths.drop (k+1)).foldl (Xd1 (κ i) (i:Int)) (((s.ths.getD k default).work.drop x.1).foldl (fun (st:NC) e=>if κ i=true then st else evE (i:Int) 4 st e) (x.2 i))))),[]⟩) (fun x=>x.1≤(s.ths.getD k default).work.length∧∀ i,0≤(x.2 i).1∧(x.2 i).1≤4194304*(k:Int)+2097153+(x.1:Int)) (fun x=>(s.ths.getD k default).work.length - x.1) (0,σ) rfl ⟨Nat.zero_le _,fun i=>by have:=h0 i;show 0≤(σ i).1∧(σ i).1≤4194304*(k:Int)+2097153+((0:Nat):Int);omega⟩ (by show _ - _<18446744073709551616;omega) ?_).trans (okL (Ys fun i hi'=>by simp only [List.drop_zero,Xlk,hpf,Xij]))
      clear h0
      rintro ⟨j,σ⟩ f' ⟨hj,h0⟩ IH2
      simp only at hj h0 ⊢
      by_cases hlj:j<(s.ths.getD k default).work.length
      ·have d1:=Xf (f:=entA) hlj
       have d2:=Xg j
       have q1:=Xe (f:=entA) hlj
       have hwj:=Xv (k:=j) (by omega)
       have hm:=hwork _ (Xi hlj)
       have r4:(lkR s.c.cap.toNat κ)[(idxB ((s.ths.getD k default).work.getD j default).h).toNat]?=some [AV.bool (κ (idxB ((s.ths.getD k default).work.getD j default).h).toNat)]:=Z3 (by have:=Y3 (hfw _ (Xi hlj));omega)
       have f4:decide (idxB ((s.ths.getD k default).work.getD j default).h<((lkR s.c.cap.toNat κ).length:Int))=true:=Ue (by have:=Y3 (hfw _ (Xi hlj));omega)
       have hjr:0≤idxB ((s.ths.getD k default).work.getD j default).h∧idxB ((s.ths.getD k default).work.getD j default).h<s.c.cap:=Y3 (hfw _ (Xi hlj))
       have hjn:(idxB ((s.ths.getD k default).work.getD j default).h).toNat<s.c.cap.toNat:=by omega
       have f1:decide (0≤idxB ((s.ths.getD k default).work.getD j default).h)=true:=decide_eq_true hjr.1
       have f2:decide (idxB ((s.ths.getD k default).work.getD j default).h<((plR s.c.cap.toNat σ).length:Int))=true:=Ue (by omega)
       have f3:decide (idxB ((s.ths.getD k default).work.getD j default).h<((laR s.c.cap.toNat σ).length:Int))=true:=Ue (by omega)
       have r2:(plR s.c.cap.toNat σ)[(idxB ((s.ths.getD k default).work.getD j default).h).toNat]?=some (iA (σ (idxB ((s.ths.getD k default).work.getD j default).h).toNat).1):=Z3 hjn
       have r3:(laR s.c.cap.toNat σ)[(idxB ((s.ths.getD k default).work.getD j default).h).toNat]?=some (iA (σ (idxB ((s.ths.getD k default).work.getD j default).h).toNat).2):=Z3 hjn
       have hws:IntKind.i64.wrap ((σ (idxB ((s.ths.getD k default).work.getD j default).h).toNat).1+1)=(σ (idxB ((s.ths.getD k default).work.getD j default).h).toNat).1+1:=by
        have:=h0 (idxB ((s.ths.getD k default).work.getD j default).h).toNat
        exact Xc (by omega) (by omega)
       by_cases hv:κ (idxB ((s.ths.getD k default).work.getD j default).h).toNat=true
       ·have g1:(!κ (idxB ((s.ths.getD k default).work.getD j default).h).toNat)=false:=by rw [hv];rfl
        have r9:=q1
        have fq1:=fun {n:Nat}=>Yo (n:=n) hm
        refine go ?_
        clear r9 fq1
        try with_reducible rfl
        refine (IH2 (j+1,σ) _ _ ⟨hlj,fun i=>by have:=h0 i;show 0≤(σ i).1∧(σ i).1≤4194304*(k:Int)+2097153+((j+1:Nat):Int);omega⟩ (by show _ - _<_ - _;omega) (by rw [hwj];rfl) rfl).trans (okL (Ys fun i hi'=>?_))
        simp only
        rw [Xq hlj,List.foldl_cons,Xz4 hjr.1 hv]
       ·replace hv:κ (idxB ((s.ths.getD k default).work.getD j default).h).toNat=false:=by simpa only [Bool.not_eq_true] using hv
        have g1:(!κ (idxB ((s.ths.getD k default).work.getD j default).h).toNat)=true:=by rw [hv];rfl
        have r9:=q1
        have fq1:=fun {n:Nat}=>Yo (n:=n) hm
        have st1:=r2
        have st2:=r3
        refine go ?_
        clear r9 fq1 st1 st2
        try with_reducible rfl
        refine (IH2 (j+1,W4 σ (idxB ((s.ths.getD k default).work.getD j default).h).toNat 4) _ _ ⟨hlj,(fun i=>by
         have:=h0 i
         show 0≤(W4 σ (idxB ((s.ths.getD k default).work.getD j default).h).toNat 4 i).1∧(W4 σ (idxB ((s.ths.getD k default).work.getD j default).h).toNat 4 i).1≤4194304*(k:Int)+2097153+((j+1:Nat):Int)
         unfold W4
         split <;> (try simp only) <;> omega)⟩ (by show _ - _<_ - _;omega) (by rw [hwj];rfl) (by rw [hws,Xgh hjn,Xgi hjn];rfl)).trans (okL (Ys fun i hi'=>?_))
        simp only
        rw [Xq hlj,List.foldl_cons,Xz5 hjr.1 hv]
      ·have d1:=Xh (f:=entA) (Nat.le_of_not_lt hlj)
       have hj1:(j:Int)≤1048576:=by omega
       have hj2:(s.ths.getD k default).work.drop j=[]:=List.drop_eq_nil_of_le (by omega)
       simp only [hj2,List.foldl_nil]
       clear IH2
       refine go ?_
       try with_reducible rfl
       refine (IH (k+1,σ) _ _ ⟨hlt,fun i=>by have:=h0 i;show 0≤(σ i).1∧(σ i).1≤4194304*((k+1:Nat):Int);omega⟩ (by show _ - _<_ - _;omega) (by rw [hw];rfl) rfl).trans rfl
  ·have e1:=Xh (f:=thA) (Nat.le_of_not_lt hlt)
   have hk3:s.ths.drop k=[]:=List.drop_eq_nil_of_le (by omega)
   have hk4:(k:Int)≤1048576:=by omega
   simp only [hk3,List.foldl_nil]
   clear IH
   refine go ?_
   refine (X9 (fun e (x:Nat×(Nat→NC))=>e.set 121 (.int .i64 (x.1:Int))) (fun h x=>(h.set 9 (some ⟨false,false,true,1,[[.lst 1 (plR s.c.cap.toNat x.2)]]⟩)).set 10 (some ⟨false,false,true,1,[[.lst 1 (laR s.c.cap.toNat x.2)]]⟩)) (fun x=>some ⟨.lst 1 (clsR s fun i=>if i<x.1 then (x.2 i).2 else finI s i (lkI (κ i) (x.2 i))),[]⟩) (fun x=>x.1≤s.c.cap.toNat∧∀ i,0≤(x.2 i).1∧(x.2 i).1≤1152921504606846976+(x.1:Int)) (fun x=>s.c.cap.toNat - x.1) (0,σ) rfl ⟨Nat.zero_le _,fun i=>by have:=h0 i;show 0≤(σ i).1∧(σ i).1≤1152921504606846976+((0:Nat):Int);omega⟩ (by show _ - _<18446744073709551616;omega) ?_).trans (okL (Ys fun i hi'=>by rw [if_neg (Nat.not_lt_zero i)]))
   clear h0 hlt e1 hk hk3 hk4
   rintro ⟨j,σ⟩ f ⟨hj,h0⟩ IH3
   simp only at hj h0 ⊢
   by_cases hjn:j<s.c.cap.toNat
   ·have hlj:=hjn
    have d1:decide ((j:Int)<s.c.cap)=true:=decide_eq_true (by omega)
    have d2:=Xg j
    have hwj:=Xv (k:=j) (by omega)
    have hcc:=Xig hc
    have f2:decide ((j:Int)<((plR s.c.cap.toNat σ).length:Int))=true:=Ue (by omega)
    have f3:decide ((j:Int)<((laR s.c.cap.toNat σ).length:Int))=true:=Ue (by omega)
    have f4:decide ((j:Int)<((lkR s.c.cap.toNat κ).length:Int))=true:=Ue (by omega)
    have r2:(plR s.c.cap.toNat σ)[j]?=some (iA (σ j).1):=Z3 hjn
    have r3:(laR s.c.cap.toNat σ)[j]?=some (iA (σ j).2):=Z3 hjn
    have r4:(lkR s.c.cap.toNat κ)[j]?=some [AV.bool (κ j)]:=Z3 hjn
    have r7:(s.cells.map iA)[(1:Int).toNat]?=some (iA (cl s 1)):=V6 (by omega)
    have f7:decide ((1:Int)<((s.cells.map iA).length:Int))=true:=Xal (by omega)
    have z7:decide ((0:Int)≤1)=true:=rfl
    have hws:IntKind.i64.wrap ((σ j).1+1)=(σ j).1+1:=by
     have:=h0 j
     exact Xc (by omega) (by omega)
    by_cases v0:κ j=true
    ·have r5:((laR s.c.cap.toNat σ).set j [AV.int .i64 3])[j]?=some [AV.int .i64 3]:=Zw (by rw [List.length_map,List.length_range];exact hjn)
     have r6:((plR s.c.cap.toNat σ).set j [AV.int .i64 (IntKind.i64.wrap ((σ j).1+1))])[j]?=some [AV.int .i64 (IntKind.i64.wrap ((σ j).1+1))]:=Zw (by rw [List.length_map,List.length_range];exact hjn)
     have f5:decide ((j:Int)<(((laR s.c.cap.toNat σ).set j [AV.int .i64 3]).length:Int))=true:=by rw [List.length_set];exact f3
     have f6:decide ((j:Int)<(((plR s.c.cap.toNat σ).set j [AV.int .i64 (IntKind.i64.wrap ((σ j).1+1))]).length:Int))=true:=by rw [List.length_set];exact f2
     by_cases p1:(σ j).1+1=1
     ·have c1:(IntKind.i64.wrap ((σ j).1+1)==1)=true:=by rw [show IntKind.i64.wrap ((σ j).1+1)=(σ j).1+1 from hws];exact Yk p1
      have c0:(IntKind.i64.wrap ((σ j).1+1)==0)=false:=by rw [show IntKind.i64.wrap ((σ j).1+1)=(σ j).1+1 from hws];exact Xt (by omega)
      by_cases b1:(j:Int)<cl s 1
      ·have b2:decide ((j:Int)<cl s 1)=true:=decide_eq_true b1
       have fq1:=@Yc
       have st1:=r2
       have st2:=r3
       refine go ?_
       clear fq1 st1 st2
       try with_reducible rfl
       exact (IH3 (j+1,setS σ j ((σ j).1+1,3)) _ _ ⟨hlj,(fun i=>by have:=h0 i;have:=h0 j;show 0≤(setS σ j ((σ j).1+1,3) i).1∧(setS σ j ((σ j).1+1,3) i).1≤1152921504606846976+((j+1:Nat):Int);unfold setS;split <;> (try simp only) <;> omega)⟩ (by show _ - _<_ - _;omega) (by rw [hwj];rfl) (by rw [hws,Xil (p:=((σ j).1+1,3)) hjn,Xbz (p:=((σ j).1+1,3)) hjn];rfl)).trans (okL (Ys fun i hi'=>Uj (fun i hne=>Xby hne) (by unfold setS finI lkI;simp [v0];omega) i))
      ·have b2:decide ((j:Int)<cl s 1)=false:=decide_eq_false b1
       have fq1:=@Yc
       have st1:=r2
       have st2:=r3
       have st3:=r5
       refine go ?_
       clear fq1 st1 st2 st3
       try with_reducible rfl
       exact (IH3 (j+1,setS σ j ((σ j).1+1,6)) _ _ ⟨hlj,(fun i=>by have:=h0 i;have:=h0 j;show 0≤(setS σ j ((σ j).1+1,6) i).1∧(setS σ j ((σ j).1+1,6) i).1≤1152921504606846976+((j+1:Nat):Int);unfold setS;split <;> (try simp only) <;> omega)⟩ (by show _ - _<_ - _;omega) (by rw [hwj];rfl) (by rw [hws,List.set_set,Xil (p:=((σ j).1+1,6)) hjn,Xbz (p:=((σ j).1+1,6)) hjn];rfl)).trans (okL (Ys fun i hi'=>Uj (fun i hne=>Xby hne) (by unfold setS finI lkI;simp [v0];omega) i))
     ·have c1:(IntKind.i64.wrap ((σ j).1+1)==1)=false:=by rw [show IntKind.i64.wrap ((σ j).1+1)=(σ j).1+1 from hws];exact Xt p1
      by_cases p0:(σ j).1+1=0
      ·have c0:(IntKind.i64.wrap ((σ j).1+1)==0)=true:=by rw [show IntKind.i64.wrap ((σ j).1+1)=(σ j).1+1 from hws];exact Yk p0
       by_cases b1:(j:Int)<cl s 1
       ·have b2:decide ((j:Int)<cl s 1)=true:=decide_eq_true b1
        have fq1:=@Yc
        have st1:=r2
        have st2:=r3
        have st3:=r5
        refine go ?_
        clear fq1 st1 st2 st3
        try with_reducible rfl
        exact (IH3 (j+1,setS σ j ((σ j).1+1,6)) _ _ ⟨hlj,(fun i=>by have:=h0 i;have:=h0 j;show 0≤(setS σ j ((σ j).1+1,6) i).1∧(setS σ j ((σ j).1+1,6) i).1≤1152921504606846976+((j+1:Nat):Int);unfold setS;split <;> (try simp only) <;> omega)⟩ (by show _ - _<_ - _;omega) (by rw [hwj];rfl) (by rw [hws,List.set_set,Xil (p:=((σ j).1+1,6)) hjn,Xbz (p:=((σ j).1+1,6)) hjn];rfl)).trans (okL (Ys fun i hi'=>Uj (fun i hne=>Xby hne) (by unfold setS finI lkI;simp [v0];omega) i))
       ·have b2:decide ((j:Int)<cl s 1)=false:=decide_eq_false b1
        have fq1:=@Yc
        have st1:=r2
        have st2:=r3
        have st3:=r5
        refine go ?_
        clear fq1 st1 st2 st3
        try with_reducible rfl
        exact (IH3 (j+1,setS σ j ((σ j).1+1,0)) _ _ ⟨hlj,(fun i=>by have:=h0 i;have:=h0 j;show 0≤(setS σ j ((σ j).1+1,0) i).1∧(setS σ j ((σ j).1+1,0) i).1≤1152921504606846976+((j+1:Nat):Int);unfold setS;split <;> (try simp only) <;> omega)⟩ (by show _ - _<_ - _;omega) (by rw [hwj];rfl) (by rw [hws,List.set_set,Xil (p:=((σ j).1+1,0)) hjn,Xbz (p:=((σ j).1+1,0)) hjn];rfl)).trans (okL (Ys fun i hi'=>Uj (fun i hne=>Xby hne) (by unfold setS finI lkI;simp [v0];omega) i))
      ·have c0:(IntKind.i64.wrap ((σ j).1+1)==0)=false:=by rw [show IntKind.i64.wrap ((σ j).1+1)=(σ j).1+1 from hws];exact Xt p0
       have fq1:=@Yc
       have st1:=r2
       have st2:=r3
       have st3:=r5
       refine go ?_
       clear fq1 st1 st2 st3
       try with_reducible rfl
       exact (IH3 (j+1,setS σ j ((σ j).1+1,6)) _ _ ⟨hlj,(fun i=>by have:=h0 i;have:=h0 j;show 0≤(setS σ j ((σ j).1+1,6) i).1∧(setS σ j ((σ j).1+1,6) i).1≤1152921504606846976+((j+1:Nat):Int);unfold setS;split <;> (try simp only) <;> omega)⟩ (by show _ - _<_ - _;omega) (by rw [hwj];rfl) (by rw [hws,List.set_set,Xil (p:=((σ j).1+1,6)) hjn,Xbz (p:=((σ j).1+1,6)) hjn];rfl)).trans (okL (Ys fun i hi'=>Uj (fun i hne=>Xby hne) (by unfold setS finI lkI;simp [v0];omega) i))
    ·replace v0:κ j=false:=by simpa only [Bool.not_eq_true] using v0
     by_cases p1:(σ j).1=1
     ·have c1:((σ j).1==1)=true:=by rw [show (σ j).1=(σ j).1 from rfl];exact Yk p1
      have c0:((σ j).1==0)=false:=by rw [show (σ j).1=(σ j).1 from rfl];exact Xt (by omega)
      by_cases b1:(j:Int)<cl s 1
      ·have b2:decide ((j:Int)<cl s 1)=true:=decide_eq_true b1
       have fq1:=@Yc
       refine go ?_
       clear fq1
       try with_reducible rfl
       exact (IH3 (j+1,σ) _ _ ⟨hlj,(fun i=>by have:=h0 i;show 0≤(σ i).1∧(σ i).1≤1152921504606846976+((j+1:Nat):Int);omega)⟩ (by show _ - _<_ - _;omega) (by rw [hwj];rfl) rfl).trans (okL (Ys fun i hi'=>Uj (fun _ _=>rfl) (by unfold finI lkI;simp [v0];omega) i))
      ·have b2:decide ((j:Int)<cl s 1)=false:=decide_eq_false b1
       have fq1:=@Yc
       have st1:=r3
       refine go ?_
       clear fq1 st1
       try with_reducible rfl
       exact (IH3 (j+1,setS σ j ((σ j).1,6)) _ _ ⟨hlj,(fun i=>by have:=h0 i;have:=h0 j;show 0≤(setS σ j ((σ j).1,6) i).1∧(setS σ j ((σ j).1,6) i).1≤1152921504606846976+((j+1:Nat):Int);unfold setS;split <;> (try simp only) <;> omega)⟩ (by show _ - _<_ - _;omega) (by rw [hwj];rfl) (by rw [Xbz (p:=((σ j).1,6)) hjn,←Xll (σ:=σ) (j:=j) (c:=6)];rfl)).trans (okL (Ys fun i hi'=>Uj (fun i hne=>Xby hne) (by unfold setS finI lkI;simp [v0];omega) i))
     ·have c1:((σ j).1==1)=false:=by rw [show (σ j).1=(σ j).1 from rfl];exact Xt p1
      by_cases p0:(σ j).1=0
      ·have c0:((σ j).1==0)=true:=by rw [show (σ j).1=(σ j).1 from rfl];exact Yk p0
       by_cases b1:(j:Int)<cl s 1
       ·have b2:decide ((j:Int)<cl s 1)=true:=decide_eq_true b1
        have fq1:=@Yc
        have st1:=r3
        refine go ?_
        clear fq1 st1
        try with_reducible rfl
        exact (IH3 (j+1,setS σ j ((σ j).1,6)) _ _ ⟨hlj,(fun i=>by have:=h0 i;have:=h0 j;show 0≤(setS σ j ((σ j).1,6) i).1∧(setS σ j ((σ j).1,6) i).1≤1152921504606846976+((j+1:Nat):Int);unfold setS;split <;> (try simp only) <;> omega)⟩ (by show _ - _<_ - _;omega) (by rw [hwj];rfl) (by rw [Xbz (p:=((σ j).1,6)) hjn,←Xll (σ:=σ) (j:=j) (c:=6)];rfl)).trans (okL (Ys fun i hi'=>Uj (fun i hne=>Xby hne) (by unfold setS finI lkI;simp [v0];omega) i))
       ·have b2:decide ((j:Int)<cl s 1)=false:=decide_eq_false b1
        have fq1:=@Yc
        have st1:=r3
        refine go ?_
        clear fq1 st1
        try with_reducible rfl
        exact (IH3 (j+1,setS σ j ((σ j).1,0)) _ _ ⟨hlj,(fun i=>by have:=h0 i;have:=h0 j;show 0≤(setS σ j ((σ j).1,0) i).1∧(setS σ j ((σ j).1,0) i).1≤1152921504606846976+((j+1:Nat):Int);unfold setS;split <;> (try simp only) <;> omega)⟩ (by show _ - _<_ - _;omega) (by rw [hwj];rfl) (by rw [Xbz (p:=((σ j).1,0)) hjn,←Xll (σ:=σ) (j:=j) (c:=0)];rfl)).trans (okL (Ys fun i hi'=>Uj (fun i hne=>Xby hne) (by unfold setS finI lkI;simp [v0];omega) i))
      ·have c0:((σ j).1==0)=false:=by rw [show (σ j).1=(σ j).1 from rfl];exact Xt p0
       have fq1:=@Yc
       have st1:=r3
       refine go ?_
       clear fq1 st1
       try with_reducible rfl
       exact (IH3 (j+1,setS σ j ((σ j).1,6)) _ _ ⟨hlj,(fun i=>by have:=h0 i;have:=h0 j;show 0≤(setS σ j ((σ j).1,6) i).1∧(setS σ j ((σ j).1,6) i).1≤1152921504606846976+((j+1:Nat):Int);unfold setS;split <;> (try simp only) <;> omega)⟩ (by show _ - _<_ - _;omega) (by rw [hwj];rfl) (by rw [Xbz (p:=((σ j).1,6)) hjn,←Xll (σ:=σ) (j:=j) (c:=6)];rfl)).trans (okL (Ys fun i hi'=>Uj (fun i hne=>Xby hne) (by unfold setS finI lkI;simp [v0];omega) i))
   ·have d1:decide ((j:Int)<s.c.cap)=false:=decide_eq_false (by omega)
    refine go ?_
    try with_reducible rfl
    refine okL ?_
    unfold clsR
    apply List.map_congr_left
    intro i hi'
    have:=List.mem_range.1 hi'
    dsimp only
    rw [if_pos (by omega)]
theorem X2n {s:Sta} {k:Nat} (hs:staB s=true) (hk:k<s.c.cap.toNat):clsV s (k:Int)=clsS s (k:Int):=by
 unfold clsV
 rw [if_pos ⟨hs,by omega,by omega⟩]
theorem Xv4 {s:Sta} {f:Nat→Int}:(clsR s f).length=s.c.cap.toNat:=by unfold clsR;simp
theorem X4s {s:Sta} {f:Nat→Int} {k:Nat} (h:k<s.c.cap.toNat):(clsR s f)[k]?=some (iA (f k)):=by unfold clsR;exact Z3 h
theorem Xv5 {p:Nat→Bool}:∀ {l:List Nat},0≤cntN p l∧cntN p l≤l.length
 | []=>by simp [cntN]
 | t::l=>by
   have:=Xv5 (p:=p) (l:=l)
   rw [cntN,List.length_cons]
   split <;> omega
theorem Xz6 {s:Sta} {c:Int} (hs:staB s=true):0≤ccV s c∧ccV s c≤s.c.cap:=by
 have hb:=Xm (Zx hs).1
 unfold ccV
 rw [if_pos hs]
 have:=Xv5 (p:=fun i=>clsV s i==c) (l:=List.range s.c.cap.toNat)
 rw [List.length_range] at this
 omega
theorem cnt3 {v:Nat→Int}:∀ {l:List Nat},cntN (fun i=>(v i !=0)&&(v i !=1)) l=(l.length:Int) - cntN (fun i=>v i==0) l - cntN (fun i=>v i==1) l
 | []=>by simp [cntN]
 | t::l=>by
   have:=cnt3 (v:=v) (l:=l)
   simp only [cntN,List.length_cons,this]
   by_cases h0:v t=0
   ·simp [h0];omega
   ·by_cases h1:v t=1
    ·simp [h1];omega
    ·simp [h0,h1];omega
theorem X6c {s:Sta} (hs:staB s=true):alV s=s.c.cap - ccV s 0 - ccV s 1:=by
 have hb:=Xm (Zx hs).1
 unfold alV ccV
 rw [if_pos hs,if_pos hs,if_pos hs,cnt3,List.length_range]
 omega
theorem Xim {n:Nat} {s:Sta} {c:Int} (hr:s.room) (hi:s.i64):callP cfg (n+14) 67 [.agg (staA s),.int .i64 c]=some ⟨.int .i64 (ccV s c),[]⟩:=by
 rw [Xa]
 unfold ccV
 by_cases hs:staB s=true
 ·rw [if_pos hs]
  have hc:=(Zx hs).1
  have hb:=Xm hc
  have fq1:=fun {n:Nat}=>V7 (n:=n) hr hi
  have fq2:=fun {n:Nat}=>Xm3 (n:=n) hs hr hi
  refine go ?_
  clear fq1 fq2
  refine (X9 (fun e (x:Nat×Int)=>(e.set 13 (.int .i64 (x.1:Int))).set 5 (.int .i64 x.2)) (fun h _=>h) (fun x=>some ⟨.int .i64 (x.2+cntN (fun i=>clsV s i==c) ((List.range s.c.cap.toNat).drop x.1)),[]⟩) (fun x=>x.1≤s.c.cap.toNat∧0≤x.2∧x.2≤x.1) (fun x=>s.c.cap.toNat - x.1) (0,0) rfl ⟨Nat.zero_le _,by decide,by decide⟩ (by show _ - _<18446744073709551616;omega) ?_).trans (okI (Int.zero_add _))
  rintro ⟨k,m⟩ f ⟨hk,h0,h1⟩ IH
  simp only at hk h0 h1 ⊢
  by_cases hlt:k<s.c.cap.toNat
  ·have e1:decide ((k:Int)<((clsR s fun i=>clsS s i).length:Int))=true:=by rw [Xv4];exact decide_eq_true (by omega)
   have e2:=Xg k
   have r1:(clsR s fun i=>clsS s i)[k]?=some (iA (clsS s k)):=X4s hlt
   have hw:=Xv (k:=k) (by omega)
   have hwm:IntKind.i64.wrap (m+1)=m+1:=Xc (by omega) (by omega)
   rw [Vt hlt,cntN,X2n hs hlt]
   by_cases v:(clsS s k==c)=true
   ·rw [if_pos v]
    refine go ?_
    try with_reducible rfl
    exact ((IH (k+1,m+1) _ _ ⟨hlt,by show 0≤m+1;omega,by show m+1≤((k+1:Nat):Int);omega⟩ (by show _ - _<_ - _;omega) (by rw [hw,hwm];rfl) rfl).trans (okI (Int.add_assoc m 1 _)))
   ·rw [if_neg v]
    replace v:(clsS s k==c)=false:=by simpa only [Bool.not_eq_true] using v
    refine go ?_
    try with_reducible rfl
    exact ((IH (k+1,m) _ _ ⟨hlt,h0,by show m≤((k+1:Nat):Int);omega⟩ (by show _ - _<_ - _;omega) (by rw [hw];rfl) rfl).trans (okI (congrArg (m+·) (Int.zero_add _)).symm))
  ·have e1:decide ((k:Int)<((clsR s fun i=>clsS s i).length:Int))=false:=by rw [Xv4];exact decide_eq_false (by omega)
   rw [List.drop_eq_nil_of_le (by rw [List.length_range];omega)]
   refine go ?_
   try with_reducible rfl
   exact okI (Int.add_zero m).symm
 ·replace hs:staB s=false:=by simpa only [Bool.not_eq_true] using hs
  rw [if_neg (by rw [hs];simp)]
  have fq1:=fun {n:Nat}=>V7 (n:=n) hr hi
  refine go ?_
  clear fq1
  try with_reducible rfl
theorem Xd2 {n:Nat} {s:Sta} (hr:s.room) (hi:s.i64):callP cfg (n+15) 60 [.agg (staA s)]=some ⟨.int .i64 (alV s),[]⟩:=by
 rw [Xa]
 by_cases hs:staB s=true
 ·have hb:=Xm (Zx hs).1
  have b0:=Xz6 (c:=0) hs
  have b1:=Xz6 (c:=1) hs
  have w1:IntKind.i64.wrap (s.c.cap - ccV s 0)=s.c.cap - ccV s 0:=Xc (by omega) (by omega)
  have w2:IntKind.i64.wrap (s.c.cap - ccV s 0 - ccV s 1)=s.c.cap - ccV s 0 - ccV s 1:=Xc (by omega) (by omega)
  rw [X6c hs]
  have fq1:=fun {n:Nat}=>V7 (n:=n) hr hi
  have fq2:=fun {n:Nat} {c:Int}=>Xim (n:=n) (c:=c) hr hi
  refine go ?_
  clear fq1 fq2
  try with_reducible rfl
  rw [w1,w2]
 ·have ha:alV s=0:=by unfold alV;rw [if_neg hs]
  replace hs:staB s=false:=by simpa only [Bool.not_eq_true] using hs
  rw [ha]
  have fq1:=fun {n:Nat}=>V7 (n:=n) hr hi
  refine go ?_
  clear fq1
  try with_reducible rfl
end Go.Proofs.YtbploohjimpcaaaGreat.A
