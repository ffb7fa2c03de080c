/- What the program's functions answer (Lib1): no condition. -/
import Derived.Calls
import Derived.Laws.StructEq
import Derived.Laws.Tables
import Derived.Laws.Runes
import Derived.Deep.AppendSrc
import Derived.Test.YtbploohjimpcaaaGreatLib0
set_option linter.unusedVariables false
set_option linter.unusedSimpArgs false
namespace Go.Abs
theorem Yd {w:World} {h:Heap} {g:Gh} {e:List AV} {o:Operand} {k:AV→R} {res:Res} {a:Act} (hh:opnd e o k=some res) (H:VRs w h g a.tmps.toList e) :
 ∃ av,k av=some res∧VR w h g (a.eval o) av:=by
 cases o with
 | tmp t =>
   simp only [opnd] at hh
   obtain ⟨av,h1,hk⟩:=Uq hh
   obtain ⟨v,h2,h3⟩:=H.get h1
   refine ⟨av,hk,?_⟩
   have:a.eval (.tmp t)=v:=by
    simp only [Act.eval,Array.getD_eq_getD_getElem?]
    rw [←Array.getElem?_toList,h2]
    rfl
   rw [this]
   exact h3
 | const v =>
   simp only [opnd] at hh
   split at hh
   ·exact ⟨_,hh,.int _ _⟩
   ·exact ⟨_,hh,.bool _⟩
   ·exact ⟨_,hh,.str _⟩
   ·exact ⟨_,hh,.nilp⟩
   ·exact ⟨_,hh,.nilf⟩
   ·exact ⟨_,hh,.emp⟩
   ·cases hh
 | func f =>
   simp only [opnd] at hh
   exact ⟨_,hh,.fn .nil⟩
 | global _=>simp [opnd] at hh
theorem Xa8 {w:World} {h:Heap} {g:Gh} {e:List AV} {a:Act} (H:VRs w h g a.tmps.toList e):∀ {os:List Operand} {k:List AV→R} {res:Res},Xbo e os k=some res →
 ∃ avs,k avs=some res∧VRs w h g (os.map a.eval) avs
 | [],k,res,hh=>⟨[],hh,.nil⟩
 | o::os,k,res,hh=>by
   simp only [Xbo] at hh
   obtain ⟨av,hh,h1⟩:=Yd hh H
   obtain ⟨avs,hh,h2⟩:=Xa8 H hh
   exact ⟨_,hh,.cons h1 h2⟩
theorem Xys (a:Act) (d:Option Tmp) (v:Value):(a.put d v).tmps.toList=match d with | some t=>a.tmps.toList.set t v | none=>a.tmps.toList:=by
 cases d with
 | none=>rfl
 | some t=>simp [Act.put,Array.toList_setIfInBounds]
theorem Xth (a:Act) (d:Option Tmp) (v:Value):(a.put d v).defers=a.defers:=by cases d <;> rfl
theorem Xti {w:World} {wr:Wrs} {ts:List (List Value)} {a:Act} {st:St} {g:Gh} {d:Option Tmp} {v:Value} {av:AV} {k:St→R} {res:Res} (h:putD st d av k=some res)
 (G:Good w wr ts a.tmps.toList st g) (H:VR w st.heap g v av):∃ e',k ⟨e',st.stk,st.heap⟩=some res∧Good w wr ts (a.put d v).tmps.toList ⟨e',st.stk,st.heap⟩ g:=by
 cases d with
 | none=>exact ⟨st.env,h,G⟩
 | some t =>
   simp only [putD] at h
   obtain ⟨_,h⟩:=Xhu h
   refine ⟨_,h,G.rel,?_,G.stk⟩
   rw [Xys]
   exact VRs.set H G.env
theorem Xjj {n:Nat} {l:List AV} (h:Xgr n l=true):l.length=n:=by
 induction n generalizing l with
 | zero=>cases l with
   | nil=>rfl
   | cons a l=>simp [Xgr] at h
 | succ n ih=>cases l with
   | nil=>simp [Xgr] at h
   | cons a l=>simp only [Xgr] at h;simp [ih h]
theorem Xof {v:Value} (h:v.oneCell'=true):v.cells=#[v]:=by
 cases v <;> first | rfl | (simp [Value.oneCell'] at h)
theorem Xbw {w:World} {wr:Wrs} {h:Heap} {g:Gh} {n:Nat} {v:Value} {a:AV} {k:List AV→R} {res:Res} (R:Rel w wr h g) (hh:Xd7 n a k=some res) (H:VR w h g v a) :
 ∃ l,k l=some res∧VRs w h g v.cells.toList l∧l.length=n∧v.cells.size=n∧((∃ cs,a=.agg cs∧l=cs)∨l=[a]):=by
 have one:n=1→k [a]=some res→v.cells=#[v]→∃ l,k l=some res∧VRs w h g v.cells.toList l∧l.length=n∧v.cells.size=n∧((∃ cs,a=.agg cs∧l=cs)∨l=[a]) :=
  fun hn hk hc=>⟨[a],hk,by rw [hc];exact .cons H .nil,by simp [hn],by rw [hc];simp [hn],.inr rfl⟩
 cases a with
 | agg cs =>
   simp only [Xd7] at hh
   split at hh
   ·rename_i hl
    cases H with
    | agg h1 =>
      have hl:=Xjj hl
      exact ⟨cs,hh,by simpa [Value.cells] using h1,hl,by have:=h1.length;simp [Value.cells];omega,.inl ⟨cs,rfl,rfl⟩⟩
   ·cases hh
 | undef=>simp [Xd7] at hh
 | pv=>simp [Xd7] at hh
 | _ =>
   simp only [Xd7] at hh
   split at hh
   ·refine one rfl hh ?_
    first | exact Xof (Rel.one_of R H rfl) | (cases H;rfl)
   ·cases hh
end Go.Abs
namespace Go.Abs
theorem Xcg {w:World} {wr:Wrs} {ts:List (List Value)} {tm:List Value} {st:St} {g:Gh} {r:Nat} {p:Path} {i j:Nat} {c:AV} {cs:List AV} {k:St→R} {res:Res}
 (h:Wt r p i j (c::cs) st k=some res) (G:Good w wr ts tm st g) (hv:∀ x,st.heap[r]?.join=some x→x.virt=true→p≠[]):∃ y,Yq w st.heap g r p=some y:=by
 simp only [Wt] at h
 cases hs:isSl c with
 | true =>
   simp only [hs] at h
   rw [Xl3] at h
   obtain ⟨cc,hcc⟩:∃ cc,cc=List.map Prod.snd (p++[((0:Nat),j)]):=⟨_,rfl⟩
   rw [←hcc] at h
   split at h
   ·rw [Xlf] at h
    obtain ⟨x1,sz1,rows,e1,e2,h⟩:=Xhx h
    obtain ⟨G1,_⟩:=G.kill r cc
    obtain ⟨x,hx,_,f2,_⟩:=(Less.kill (w:=w) (h:=st.heap) (g:=g) r cc).flags r x1 e1
    obtain ⟨v,hw,_⟩:=G1.rel.walks e1 e2 (fun hx1=>hv x hx (f2.trans hx1))
    obtain ⟨rows',hb,_⟩:=(Less.kill (w:=w) (h:=st.heap) (g:=g) r cc).back _ _ _ _ _ hw
    exact ⟨_,hb⟩
   ·cases h
 | false =>
   simp only [hs] at h
   obtain ⟨x1,sz1,rows,e1,e2,h⟩:=Xhx h
   obtain ⟨v,hw,_⟩:=G.rel.walks e1 e2 (hv x1 e1)
   exact ⟨_,hw⟩
structure Fr (w0:World) (wr0:CS) (w:World):Prop where
 os:w.os=w0.os
 tape:w.tape=w0.tape
 output:w.output=w0.output
 size:w0.heap.size≤w.heap.size
 block:∀ b,b<w0.heap.size→(∀ q,¬wr0 b q)→w.heap[b]?=w0.heap[b]?
 cells:∀ b cs e fz,w0.heap[b]?=some (.cells cs e fz)→∃ cs',w.heap[b]?=some (.cells cs' e fz)∧cs'.size=cs.size∧∀ q,¬wr0 b q→cs'[q]?=cs[q]?
theorem Fr.refl (w:World) (wr0:CS):Fr w wr0 w:=⟨rfl,rfl,rfl,Nat.le_refl _,fun _ _ _=>rfl,fun _ cs _ _ h=>⟨cs,h,rfl,fun _ _=>rfl⟩⟩
theorem Fr.setCell {w0:World} {wr0:CS} {w:World} (F:Fr w0 wr0 w) {b q:Nat} {u:Value} (h:b<w0.heap.size→wr0 b q):Fr w0 wr0 (w.setCell ⟨b,q,none⟩ u):=by
 refine ⟨F.os,F.tape,F.output,by simp;exact F.size,fun b' hb hn=>?_,fun b' cs e fz hb=>?_⟩
 ·rw [Z5 (fun e=>by subst e;exact hn q (h hb))]
  exact F.block b' hb hn
 ·obtain ⟨cs',h1,h2,h3⟩:=F.cells b' cs e fz hb
  by_cases e1:b'=b
  ·subst e1
   refine ⟨cs'.setIfInBounds q u,Ux h1,by simp [h2],fun q' hq=>?_⟩
   have hlt:b'<w0.heap.size:=by
    rcases Nat.lt_or_ge b' w0.heap.size with h | h
    ·exact h
    ·rw [Array.getElem?_eq_none h] at hb;cases hb
   rw [Array.getElem?_setIfInBounds_ne (fun e=>hq (by rw [←e];exact h hlt))]
   exact h3 q' hq
  ·exact ⟨cs',by rw [Z5 e1];exact h1,h2,h3⟩
theorem Fr.setCells {w0:World} {wr0:CS} {b:Nat}:∀ {us:List Value} {o:Nat} {w:World},Fr w0 wr0 w→(∀ q,q<us.length→b<w0.heap.size→wr0 b (o+q))→Fr w0 wr0 (w.setCells b o us)
 | [],_,_,F,_=>F
 | u::us,o,w,F,h=>(F.setCell (fun hb=>h 0 (by simp) hb)).setCells (fun q hq hb=>by have:=h (q+1) (by simpa using hq) hb;rwa [show o+(q+1)=o+1+q by omega] at this)
theorem Xtj {p p':Path} {i j:Nat} (h:Qt p p' i j=true):p'=p++[(i,j)]:=by
 induction p generalizing p' with
 | nil =>
   cases p' with
   | nil=>simp [Qt] at h
   | cons a p' =>
     obtain ⟨i',j'⟩:=a
     cases p' with
     | nil=>simp [Qt] at h;simp [h]
     | cons=>simp [Qt] at h
 | cons a p ih =>
   obtain ⟨i0,j0⟩:=a
   cases p' with
   | nil=>simp [Qt] at h
   | cons a p' =>
     obtain ⟨i',j'⟩:=a
     simp only [Qt,Bool.and_eq_true,beq_iff_eq] at h
     obtain ⟨⟨rfl,rfl⟩,h⟩:=h
     rw [ih h]
     rfl
theorem Z7 {b:Bool} {x y:R} {res:Res} (h:br b x y=some res):(b=true∧x=some res)∨(b=false∧y=some res):=by
 cases b
 ·rw [Wk] at h;exact .inr ⟨rfl,h⟩
 ·rw [Vn] at h;exact .inl ⟨rfl,h⟩
theorem Xdo {P:Program} {w:World} {t:TypeId} {ti:TInfo} (hti:TyOK P t ti) {b o:Nat} {v:Value} (hn:v.cells.size=ti.size) (h1:∀ u∈v.cells.toList,u.oneCell'=true)
 (hc:∀ q,q<v.cells.toList.length→(w.cell? ⟨b,o+q,none⟩).isSome=true∧w.frozen? ⟨b,o+q,none⟩=false) :
 (Instr.storeAt t (.pointer (some ⟨b,o,none⟩)) v).run P w=.ok () (w.setCells b o v.cells.toList):=by
 obtain ⟨_,⟨ii,z,hi1,hi2,_⟩,_⟩:=hti
 have hst:=run_storeCells_cells (P:=P) b o v.cells.toList 0 w (fun j hj=>(hc j hj).1) (fun j hj=>(hc j hj).2) h1
 simp only [Nat.add_zero] at hst
 simp [Instr.storeAt,Instr.sureAddr,storeVar,sizeOf,typeInfo,hi1,hi2,hn,hst]
theorem Xch {cfg:Cfg} {t:TypeId} {k:Nat→R} {res:Res} (h:U6 cfg t k=some res):∃ n,k n=some res:=by
 unfold U6 at h
 obtain ⟨_,_,h⟩:=Y1 h
 split at h
 ·obtain ⟨_,_,h⟩:=Y1 h
  exact ⟨_,h⟩
 ·exact ⟨_,h⟩
theorem Xp6 {P:Program} {cfg:Cfg} (hT:Z2 P cfg.ty) {w:World} {wr:Wrs} {ts:List (List Value)} {tm:List Value} {st:St} {g:Gh} {t:TypeId} {va vv:Value} {a v:AV} {k:St→R} {res:Res}
 (hh:Xs7 cfg t st a v k=some res) (G:Good w wr ts tm st g) (ha:VR w st.heap g va a) (hv:VR w st.heap g vv v) :
 ∃ w' st' g',(Instr.storeAt t va vv).run P w=.ok () w'∧k st'=some res∧Good w' wr ts tm st' g'∧∃ b o us,w'=w.setCells b o us∧∀ q,q<us.length→wr b (o+q):=by
 cases ha <;> simp only [Xs7] at hh <;> try (simp at hh;done)
 rename_i r p i j sz rows b o n c hp
 obtain ⟨ti,hti,hh⟩:=Y1 hh
 obtain ⟨l,hh,hl,hln,hvn,hshape⟩:=Xbw G.rel hh hv
 obtain ⟨esz,hh⟩:=Xch hh
 obtain ⟨x,hx,hh⟩:=Ug hh
 have hx:st.heap[r]?.join=some x:=by rw [hx];rfl
 have hvirt:x.virt=true→p≠[]:=by
  obtain ⟨x',hx',_,hv'⟩:=Yr hp
  rw [hx] at hx'
  cases hx'
  exact hv'
 obtain ⟨ro,virt,box,sz0,rows0⟩:=x
 simp only at hh
 cases ro with
 | true=>cases hh
 | false =>
 simp only at hh
 have fin:∀ (ex:Bool) (cs:List AV) (us:List Value) (Ss:List BS) (st1:St) (g1:Gh),us=vv.cells.toList→Wt r p i j cs st1 k=some res→Good w wr ts tm st1 g1→Less w st.heap g st1.heap g1 →
  Hand w wr st1.heap g1 ex us cs Ss→(∀ u∈us,u.oneCell'=true)→(ex=true→box=true∧p=[]∧virt=false) →
  ∃ w' st' g',(Instr.storeAt t (.pointer (some ⟨b,o+i*sz+j,none⟩)) vv).run P w=.ok () w'∧k st'=some res∧Good w' wr ts tm st' g'∧∃ b o us,w'=w.setCells b o us∧∀ q,q<us.length→wr b (o+q):=by
  intro ex cs us Ss st1 g1 hus hk G1 L hand hone hex
  subst hus
  cases cs with
  | nil =>
    have h0:vv.cells.toList=[]:=by have:=hand.length;simpa using this
    refine ⟨w,st1,g1,?_,hk,G1,b,o,[],rfl,fun q hq=>by simp at hq⟩
    have:=Xdo (P:=P) (w:=w) (hT _ hti) (b:=b) (o:=o+i*sz+j) (v:=vv) hvn hone (fun q hq=>by rw [h0] at hq;simp at hq)
    rw [h0] at this
    exact this
  | cons c0 cs =>
    obtain ⟨⟨v1,s1,r1⟩,hw1⟩:=Xcg hk G1 (fun x1 hx1 hvt=>by
     obtain ⟨x',hx',_,f2,_⟩:=L.flags r x1 hx1
     rw [hx] at hx'
     cases hx'
     exact hvirt (f2.trans hvt))
    obtain ⟨r0,hb,_⟩:=L.back _ _ _ _ _ hw1
    rw [hp] at hb
    cases hb
    obtain ⟨x1,hx1,_⟩:=Yr hw1
    obtain ⟨x',hx',f1,f2,f3,_⟩:=L.flags r x1 hx1
    rw [hx] at hx'
    cases hx'
    obtain ⟨st',g',k1,k2,k3⟩:=Xce (c0::cs) j vv.cells.toList Ss st1 g1 w hk G1 ⟨x1,hx1,f1.symm,fun he=>let ⟨e1,e2,e3⟩:=hex he;⟨f3.symm.trans e1,e2,f2.symm.trans e3⟩⟩ ⟨_,hw1⟩ hand
    exact ⟨_,st',g',Xdo (hT _ hti) hvn hone (fun q hq=>⟨(k3 q hq).1,(k3 q hq).2.1⟩),k1,k2,b,o+i*sz+j,_,rfl,fun q hq=>(k3 q hq).2.2⟩
 have plain:Xd6 false false esz l st (fun cs st=>Wt r p i j cs st k)=some res →
  ∃ w' st' g',(Instr.storeAt t (.pointer (some ⟨b,o+i*sz+j,none⟩)) vv).run P w=.ok () w'∧k st'=some res∧Good w' wr ts tm st' g'∧∃ b o us,w'=w.setCells b o us∧∀ q,q<us.length→wr b (o+q):=by
  intro hh
  obtain ⟨cs,Ss,st1,g1,hk,I⟩:=Xde hh G hl
  exact fin false cs _ Ss st1 g1 rfl hk I.good I.less I.hand I.one (fun h=>by cases h)
 split at hh
 ·obtain ⟨cs,Ss,st1,g1,hk,I⟩:=Xde hh G hl
  exact fin true cs _ Ss st1 g1 rfl hk I.good I.less I.hand I.one (fun _=>⟨rfl,rfl,rfl⟩)
 ·split at hh
  ·rename_i r' p' off len
   split at hh
   ·rename_i e
    subst e
    rcases Z7 hh with ⟨hs,hh⟩ | ⟨_,hh⟩
    ·have hp':=Xtj hs
     obtain ⟨v1,sz1,rows1,S,st1,g1,hk,T⟩:=W3 hh G
     cases hv with
     | sub h1 hlen h2 =>
       rw [T.at_] at h1
       cases h1
       have htr:=T.tree.sub hlen h2
       have hvc:vv.cells.toList=[vv]:=by rw [Xof (htr.one (by simp))]
       refine fin false _ [vv] [S] st1 g1 hvc.symm hk T.good T.less (.cons (fun _=>htr) (fun h=>by simp [isX] at h) T.apart (fun _ h=>by simp at h) .nil) (fun u hu=>?_) (fun h=>by cases h)
       simp at hu
       subst hu
       exact htr.one (by simp)
    ·cases hh
   ·exact plain hh
  ·exact plain hh
end Go.Abs
namespace Go.Abs
def Wrs.Agree (n:Nat) (wr wr':Wrs):Prop:=wr'.dom=wr.dom∧∀ b q,b<n→(wr' b q↔wr b q)
theorem X3j {w:World} {wr wr':Wrs} {n:Nat} (A:wr.Agree n wr') {ro:Bool} {b q:Nat} (hb:b<n) (h:Kr w wr ro b q):Kr w wr' ro b q:=by
 cases ro with
 | false=>exact ⟨(A.2 b q hb).2 h.1,h.2⟩
 | true=>exact ⟨fun h'=>h.1 ((A.2 b q hb).1 h'),by rw [A.1];exact h.2⟩
theorem TR.wr {w:World} {wr wr':Wrs} {n:Nat} (A:wr.Agree n wr') {own ro:Bool} {S:BS} {v:Value} {a:AV} (h:TR w own (Kr w wr ro) S v a) (hS:∀ k,S k→k<n):TR w own (Kr w wr' ro) S v a :=
 h.mono (fun _ h=>h) (fun b _ hb hk=>X3j A (hS b hb) hk)
theorem Rel.wr {w:World} {wr wr':Wrs} {h:Heap} {g:Gh} (R:Rel w wr h g) (A:wr.Agree w.heap.size wr'):Rel w wr' h g:=by
 refine ⟨fun r x hx=>?_,R.sep,R.low⟩
 have hR:=R.root r x hx
 have low:∀ k,g.F r k→k<w.heap.size:=fun k hk=>R.low r x k hx hk
 unfold Zu at hR ⊢
 cases hv:x.virt with
 | true =>
   simp only [hv] at hR ⊢
   obtain ⟨row,f,h1,h2,h3,h4,h5⟩:=hR
   exact ⟨row,f,h1,h2,h3,h4,fun j a v ha hv=>(h5 j a v ha hv).wr A (fun k hk=>low k (h3 j k hk))⟩
 | false =>
   cases hb:x.box with
   | false=>simp only [hv,hb] at hR ⊢;exact hR.wr A low
   | true =>
     simp only [hv,hb] at hR ⊢
     obtain ⟨b,o,cs,e,fz,f,h1,h2,h3,h4,h5,h6,h7,h8,h9⟩:=hR
     refine ⟨b,o,cs,e,fz,f,h1,h2,h3,h4,fun q q1 q2=>X3j A (low b h6) (h5 q q1 q2),h6,h7,h8,fun i j row a hr ha=>?_⟩
     have hc:=h9 i j row a hr ha
     unfold Ut at hc ⊢
     cases hX:isX a with
     | true=>simp only [hX] at hc ⊢;exact hc
     | false=>simp only [hX] at hc ⊢;exact hc.wr A (fun k hk=>low k (h7 i j k hk))
theorem Good.wr {w:World} {wr wr':Wrs} {ts:List (List Value)} {tm:List Value} {st:St} {g:Gh} (G:Good w wr ts tm st g) (A:wr.Agree w.heap.size wr'):Good w wr' ts tm st g:=⟨G.rel.wr A,G.env,G.stk⟩
theorem Hand.wr {w:World} {wr wr':Wrs} {h:Heap} {g:Gh} {ex:Bool} (A:wr.Agree w.heap.size wr'):∀ {us:List Value} {l:List AV} {Ss:List BS},Hand w wr h g ex us l Ss→Hand w wr' h g ex us l Ss
 | _,_,_,.nil=>.nil
 | _,_,_,.cons h1 h2 h3 h4 h5=>.cons (fun hx=>(h1 hx).wr A (fun k hk=>(h3 k hk).1)) h2 h3 h4 (Hand.wr A h5)
def gNew (g:Gh) (slot:Nat) (ρ0:Value) (G0:List Value) (F0:BS):Gh:=⟨fun r=>if r=slot then ρ0 else g.ρ r,fun r=>if r=slot then G0 else g.G r,fun r=>if r=slot then F0 else g.F r⟩
theorem Rel.new2 {w w':World} {wr:Wrs} {h:Heap} {g:Gh} (R:Rel w wr h g) {slot:Nat} (hs:h[slot]?.join=none) (hsz:w.heap.size≤w'.heap.size)
 (hw:∀ k,k<w.heap.size→w'.heap[k]?=w.heap[k]?) (x:Root) (ρ0:Value) (G0:List Value) (F0:BS) (hF:∀ k,F0 k→k<w'.heap.size) (hA:∀ r' x' k,h[r']?.join=some x'→(x.ro=false∨x'.ro=false)→F0 k→¬g.F r' k)
 (hX:Rel w wr h g→Vf (fun _ _=>True) w h g w' (put h slot (some x)) (gNew g slot ρ0 G0 F0)→Zu w' wr (put h slot (some x)) (gNew g slot ρ0 G0 F0) slot x) :
 Rel w' wr (put h slot (some x)) (gNew g slot ρ0 G0 F0)∧Vf (fun _ _=>True) w h g w' (put h slot (some x)) (gNew g slot ρ0 G0 F0):=by
 have hne:∀ r',r'≠slot→(gNew g slot ρ0 G0 F0).ρ r'=g.ρ r'∧(gNew g slot ρ0 G0 F0).G r'=g.G r'∧(gNew g slot ρ0 G0 F0).F r'=g.F r':=fun r' hr=>by simp [gNew,hr]
 have hself:(gNew g slot ρ0 G0 F0).F slot=F0:=by simp [gNew]
 have keeps:Vf (fun _ _=>True) w h g w' (put h slot (some x)) (gNew g slot ρ0 G0 F0):=by
  intro r p v sz rows _ hh
  by_cases e:r=slot
  ·subst e
   simp [Yq,hs] at hh
  ·refine ⟨rows,?_,rfl⟩
   rw [Xao (fun x hx=>R.root r x hx) (by rw [Wv,if_neg e]) ⟨(hne r e).1,(hne r e).2.1⟩ (fun x k hx hF=>hw k (R.low r x k hx hF))]
   exact hh
 refine ⟨R.change (r:=slot) (X:=some x) (Xcd.all (fun _ _=>trivial) h) keeps (fun r'=>Wv _ _ _ _) hsz (fun r' x' k _ hx hF=>hw k (R.low r' x' k hx hF)) hne
  (fun x' hx'=>by cases hx';exact hX R keeps) (fun x' hx' r' y k hr hy hro hF1 hF2=>?_) (fun x' _ k hk=>by rw [hself] at hk;exact hF k hk),keeps⟩
 cases hx'
 rw [hself] at hF1
 exact hA r' y k hy hro hF1 hF2
theorem Good.new {w w':World} {wr:Wrs} {ts:List (List Value)} {tm:List Value} {st:St} {g:Gh} (G:Good w wr ts tm st g) {slot:Nat} (hs:st.heap[slot]?.join=none) (hsz:w.heap.size≤w'.heap.size)
 (hw:∀ k,k<w.heap.size→w'.heap[k]?=w.heap[k]?) (x:Root) (ρ0:Value) (G0:List Value) (F0:BS) (hF:∀ k,F0 k→k<w'.heap.size) (hA:∀ r' x' k,st.heap[r']?.join=some x'→(x.ro=false∨x'.ro=false)→F0 k→¬g.F r' k)
 (hX:Vf (fun _ _=>True) w st.heap g w' (put st.heap slot (some x)) (gNew g slot ρ0 G0 F0)→Zu w' wr (put st.heap slot (some x)) (gNew g slot ρ0 G0 F0) slot x) :
 Good w' wr ts tm ⟨st.env,st.stk,put st.heap slot (some x)⟩ (gNew g slot ρ0 G0 F0)∧Vf (fun _ _=>True) w st.heap g w' (put st.heap slot (some x)) (gNew g slot ρ0 G0 F0):=by
 obtain ⟨h1,h2⟩:=G.rel.new2 hs hsz hw x ρ0 G0 F0 hF hA (fun _=>hX)
 exact ⟨G.keep (Xdn.all (fun _ _=>trivial) st) h2 h1,h2⟩
structure Grid (w:World) (wr:Wrs) (h:Heap) (g:Gh) (ex:Bool) (sz:Nat) (rows:Rows) (cs:Array Value) (f:Nat→Nat→BS):Prop where
 len:∀ row∈rows,row.length=sz
 cell:∀ (i j:Nat) (row:List AV) (a:AV),rows[i]?=some row→row[j]?=some a→(isX a=false→TR w true (Kr w wr false) (f i j) (cs.getD (i*sz+j) default) a)∧(isX a=true→ex=true∧VR w h g (cs.getD (i*sz+j) default) a)
 apart:∀ i j k,f i j k→k<w.heap.size∧∀ r' x',h[r']?.join=some x'→¬g.F r' k
 own:∀ i j i' j' k,f i j k→f i' j' k→i=i'∧j=j'
theorem Xjk {w:World} {ob:Obj}:(w.alloc ob).heap[w.heap.size]?=some ob:=by
 show (w.heap.push ob)[w.heap.size]?=some ob
 simp
theorem Xjl {w:World} {ob:Obj} {k:Nat} (h:k<w.heap.size):(w.alloc ob).heap[k]?=w.heap[k]?:=by
 show (w.heap.push ob)[k]?=w.heap[k]?
 rw [Array.getElem?_push,if_neg (by omega)]
def Xgt (wr:Wrs) (n:Nat):Wrs:=⟨fun b q=>wr b q∨b=n,wr.dom⟩
theorem Xrg (wr:Wrs) (n:Nat):wr.Agree n (Xgt wr n):=⟨rfl,fun b q hb=>⟨fun h=>h.resolve_right (by omega),fun h=>.inl h⟩⟩
theorem Good.blockF {w:World} {wr:Wrs} {ts:List (List Value)} {tm:List Value} {st:St} {g:Gh} (G:Good w wr ts tm st g) {slot:Nat} (hs:st.heap[slot]?.join=none) {ex:Bool} {sz:Nat} {rows:Rows} {cs:Array Value} {f:Nat→Nat→BS} (e:TypeId) (c:Nat) (fz:Nat×Nat) (hfz:∀ q,q<c*sz→¬(fz.1≤q∧q<fz.2))
 (D:Grid w wr st.heap g ex sz rows cs f) (hc:rows.length≤c) (hsz:c*sz≤cs.size) (hex:ex=true→c=rows.length) (hpos:0<sz) :
 ∃ g',Good (w.alloc (.cells cs e fz)) (Xgt wr w.heap.size) ts tm ⟨st.env,st.stk,put st.heap slot (some ⟨false,false,ex,sz,rows⟩)⟩ g' ∧
  Yq (w.alloc (.cells cs e fz)) (put st.heap slot (some ⟨false,false,ex,sz,rows⟩)) g' slot []=some (.slice (some ⟨w.heap.size,0,none⟩) rows.length c,sz,rows) ∧
  Vf (fun _ _=>True) w st.heap g (w.alloc (.cells cs e fz)) (put st.heap slot (some ⟨false,false,ex,sz,rows⟩)) g':=by
 have A:=Xrg wr w.heap.size
 have hold:∀ k,k<w.heap.size→(w.alloc (.cells cs e fz)).heap[k]?=w.heap[k]?:=fun k hk=>Xjl hk
 have hszw:(w.alloc (.cells cs e fz)).heap.size=w.heap.size+1:=by
  show (w.heap.push _).size=_
  simp
 have hK:∀ q,q<c*sz→Kr (w.alloc (.cells cs e fz)) (Xgt wr w.heap.size) false w.heap.size q:=fun q hq=>⟨.inr rfl,by simp only [World.frozen?,Xjk];simpa using hfz q hq⟩
 have hF:∀ k,(k=w.heap.size∨∃ i j,f i j k)→k<(w.alloc (.cells cs e fz)).heap.size:=by
  intro k hk
  rcases hk with rfl | ⟨i,j,hk⟩
  ·omega
  ·have:=(D.apart i j k hk).1
   omega
 have hA:∀ r' x' k,st.heap[r']?.join=some x'→((⟨false,false,ex,sz,rows⟩:Root).ro=false∨x'.ro=false)→(k=w.heap.size∨∃ i j,f i j k)→¬g.F r' k:=by
  intro r' x' k hx' _ hk hF
  rcases hk with rfl | ⟨i,j,hk⟩
  ·have:=G.rel.low r' x' _ hx' hF
   omega
  ·exact (D.apart i j k hk).2 r' x' hx' hF
 have hX:Vf (fun _ _=>True) w st.heap g (w.alloc (.cells cs e fz)) (put st.heap slot (some ⟨false,false,ex,sz,rows⟩)) (gNew g slot (.slice (some ⟨w.heap.size,0,none⟩) rows.length c) [] (fun k=>k=w.heap.size∨∃ i j,f i j k)) →
  Zu (w.alloc (.cells cs e fz)) (Xgt wr w.heap.size) (put st.heap slot (some ⟨false,false,ex,sz,rows⟩)) (gNew g slot (.slice (some ⟨w.heap.size,0,none⟩) rows.length c) [] (fun k=>k=w.heap.size∨∃ i j,f i j k)) slot ⟨false,false,ex,sz,rows⟩:=by
  intro keeps
  have tree:∀ i j row a,rows[i]?=some row→row[j]?=some a→isX a=false→TR (w.alloc (.cells cs e fz)) true (Kr (w.alloc (.cells cs e fz)) (Xgt wr w.heap.size) false) (f i j) (cs.getD (i*sz+j) default) a :=
   fun i j row a hr ha hx=>(((D.cell i j row a hr ha).1 hx).wr A (fun k hk=>(D.apart i j k hk).1)).same (fun k hk=>hold k (D.apart i j k hk).1)
  unfold Zu
  cases ex with
  | false =>
    simp only [gNew,if_true,Bool.not_false]
    by_cases hc0:c=0
    ·subst hc0
     obtain rfl:rows=[]:=List.length_eq_zero_iff.1 (by omega)
     exact .nil
    refine .lst f (fz:=fz) (e:=e) (cs:=cs) Xjk (by omega) hc D.len ⟨Nat.mul_pos (by omega) hpos,fun q _ hq=>hK q (by omega)⟩ (.inl rfl) (fun i j k hk=>.inr ⟨i,j,hk⟩) (fun _=>⟨fun i j hk=>by have:=(D.apart i j _ hk).1;omega,D.own⟩) (fun i j row a hr ha=>?_)
    rw [Nat.zero_add]
    refine tree i j row a hr ha ?_
    cases hx:isX a with
    | false=>rfl
    | true=>have:=((D.cell i j row a hr ha).2 hx).1;cases this
  | true =>
    have hcn:=hex rfl
    subst hcn
    simp only
    refine ⟨w.heap.size,0,cs,e,fz,f,by simp [gNew],Xjk,by dsimp only;omega,D.len,fun q _ hq=>hK q (by simp only at hq;omega),by simp [gNew],fun i j k hk=>by simp only [gNew,if_true];exact .inr ⟨i,j,hk⟩,
     fun _=>⟨fun i j hk=>by have:=(D.apart i j _ hk).1;omega,D.own⟩,fun i j row a hr ha=>?_⟩
    rw [Nat.zero_add]
    unfold Ut
    cases hx:isX a with
    | true=>exact VR.keep keeps ((D.cell i j row a hr ha).2 hx).2 (Refs.all (fun _ _=>trivial) a)
    | false=>exact tree i j row a hr ha hx
 obtain ⟨h1,h2⟩:=(G.wr A).new (w':=w.alloc (.cells cs e fz)) hs (by rw [hszw];omega) hold ⟨false,false,ex,sz,rows⟩ (.slice (some ⟨w.heap.size,0,none⟩) rows.length c) []
  (fun k=>k=w.heap.size∨∃ i j,f i j k) hF hA hX
 refine ⟨_,h1,?_,h2⟩
 rw [Y2 (x:=⟨false,false,ex,sz,rows⟩) (by rw [Wv,if_pos rfl])]
 simp [walk,gNew]
theorem Good.block {w:World} {wr:Wrs} {ts:List (List Value)} {tm:List Value} {st:St} {g:Gh} (G:Good w wr ts tm st g) {slot:Nat} (hs:st.heap[slot]?.join=none) {ex:Bool} {sz:Nat} {rows:Rows} {cs:Array Value} {f:Nat→Nat→BS} (e:TypeId) (c:Nat)
 (D:Grid w wr st.heap g ex sz rows cs f) (hc:rows.length≤c) (hsz:c*sz≤cs.size) (hex:ex=true→c=rows.length) (hpos:0<sz) :
 ∃ g',Good (w.alloc (.cells cs e (0,0))) (Xgt wr w.heap.size) ts tm ⟨st.env,st.stk,put st.heap slot (some ⟨false,false,ex,sz,rows⟩)⟩ g' ∧
  Yq (w.alloc (.cells cs e (0,0))) (put st.heap slot (some ⟨false,false,ex,sz,rows⟩)) g' slot []=some (.slice (some ⟨w.heap.size,0,none⟩) rows.length c,sz,rows) ∧
  Vf (fun _ _=>True) w st.heap g (w.alloc (.cells cs e (0,0))) (put st.heap slot (some ⟨false,false,ex,sz,rows⟩)) g' :=
 G.blockF hs e c (0,0) (fun q _ h=>by simp at h) D hc hsz hex hpos
end Go.Abs
namespace Go.Abs
structure Env where
 J:World→Prop
 N:Nat
 stable:∀ w w':World,J w→(∀ b,b<N→w'.heap[b]?=w.heap[b]?)→w'.os=w.os→w'.tape=w.tape→w'.output=w.output→J w'
structure Ctx where
 E:Env
 w0:World
 wr0:CS
 dom0:CS
 hdom:∀ b q,w0.heap.size≤b→dom0 b q
 hJ:E.J w0
 hN:E.N≤w0.heap.size
 hwr:∀ b q,wr0 b q→E.N≤b
structure Inv (C:Ctx) (ts:List (List Value)) (w:World) (a:Act) (st:St) (wr:Wrs) (g:Gh):Prop where
 good:Good w wr ts a.tmps.toList st g
 fr:Fr C.w0 C.wr0 w
 can:∀ b q,wr b q→b<C.w0.heap.size→C.wr0 b q
 dom:wr.dom=C.dom0
 nodef:a.defers=[]
def InvE (C:Ctx) (ts:List (List Value)) (w:World) (a:Act) (st:St):Prop:=∃ wr g,Inv C ts w a st wr g
def Post (C:Ctx) (ts:List (List Value)) (c:St→R) (res:Res):Act→World→Prop:=fun a w=>∃ st,c st=some res∧InvE C ts w a st
section
variable {P:Program} {cfg:Cfg} {lv:Lev} {C:Ctx} {ts:List (List Value)} {w w':World} {a:Act} {st:St} {wr:Wrs} {g:Gh} {c:St→R} {res:Res} {o:Oper} {slot:Nat}
theorem Inv.put {v:Value} {av:AV} {d:Option Tmp} (I:Inv C ts w a st wr g) (h:putD st d av c=some res) (H:VR w st.heap g v av):Post C ts c res (a.put d v) w:=by
 obtain ⟨e',h1,h2⟩:=Xti h I.good H
 exact ⟨_,h1,wr,g,h2,I.fr,I.can,I.dom,by rw [Xth];exact I.nodef⟩
theorem Zs {next:Act→World→Prop} {Q:Exit→Act→World→Prop} {s:Sem Value} {v:Value} (ho:execOp a.eval o=(do pure (.value (←s)))) (hs:s.run P w=.ok v w') (h:next (a.put o.dst v) w') :
 o.wp P a w next Q:=by
 unfold Oper.wp
 rw [ho]
 simp only [Sem.run_bind,hs,Result.andThen_ok,Sem.run_pure]
 exact h
theorem X05 {next:Act→World→Prop} {Q:Exit→Act→World→Prop} {s:Sem Unit} (ho:execOp a.eval o=(do s;pure .skip)) (hs:s.run P w=.ok () w') (h:next (a.put o.dst undef) w') :
 o.wp P a w next Q:=by
 unfold Oper.wp
 rw [ho]
 simp only [Sem.run_bind,hs,Result.andThen_ok,Sem.run_pure]
 exact h
theorem Xp7 {t:TypeId} {v:Value} {av:AV} {k:AV→St→R} (I:Inv C ts w a st wr g) (h:Xpo cfg t slot av st k=some res) (H:VR w st.heap g v av) :
 ∃ av' st' g',k av' st'=some res∧Inv C ts w a st' wr g'∧VR w st'.heap g' v av':=by
 unfold Xpo at h
 split at h
 ·obtain ⟨esz,h⟩:=Xch h
  obtain ⟨hs,h⟩:=W2 h
  cases H
  obtain ⟨h1,h2⟩:=I.good.new (w':=w) hs (Nat.le_refl _) (fun _ _=>rfl) ⟨false,false,false,esz,[]⟩ (.slice none 0 0) [] (fun _=>False) (fun _ h=>h.elim) (fun _ _ _ _ _ h=>h.elim) (fun _=>by
   unfold Zu
   simp only [gNew,if_true]
   exact .nil)
  refine ⟨_,_,_,h,⟨h1,I.fr,I.can,I.dom,I.nodef⟩,.ref (sz:=esz) (rows:=[]) ?_⟩
  rw [Y2 (x:=⟨false,false,false,esz,[]⟩) (by rw [Wv,if_pos rfl])]
  simp [walk,gNew]
 ·exact ⟨_,_,_,h,I,H⟩
theorem Xvl {x:Operand} {Q:Exit→Act→World→Prop} (ho:o.op=.move x∨o.op=.assign x) (h:evOp cfg lv slot o st c=some res) (I:Inv C ts w a st wr g):o.wp P a w (Post C ts c res) Q:=by
 have h:(opnd st.env x fun v=>Xpo cfg o.type slot v st fun v st=>putD st o.dst v c)=some res:=by rcases ho with ho | ho <;> simpa only [evOp,ho] using h
 obtain ⟨av,h,H⟩:=Yd h I.good.env
 obtain ⟨av',st',g',h,I',H'⟩:=Xp7 I h H
 have hx:execOp a.eval o=pure (.value (a.eval x)):=by rcases ho with ho | ho <;> simp only [execOp,ho]
 unfold Oper.wp
 rw [hx]
 exact I'.put h H'
theorem X06 {x y z:Operand} {Q:Exit→Act→World→Prop} (ho:o.op=.pick x y z) (h:evOp cfg lv slot o st c=some res) (I:Inv C ts w a st wr g):o.wp P a w (Post C ts c res) Q:=by
 simp only [evOp,ho] at h
 obtain ⟨av,h,H⟩:=Yd h I.good.env
 split at h
 ·rename_i t
  generalize hx:a.eval x=vx at H
  cases H
  unfold Oper.wp
  have hb:execOp a.eval o=(do pure (.value (if ←asBool (a.eval x) then a.eval y else a.eval z))):=by simp only [execOp,ho]
  rw [hb,hx]
  rcases Z7 h with ⟨rfl,h2⟩ | ⟨rfl,h2⟩
  ·obtain ⟨av,h2,H⟩:=Yd h2 I.good.env
   exact I.put h2 H
  ·obtain ⟨av,h2,H⟩:=Yd h2 I.good.env
   exact I.put h2 H
 ·cases h
theorem X07 (hT:Z2 P cfg.ty) {t:TypeId} {x:Operand} {Q:Exit→Act→World→Prop} (ho:o.op=.load t x) (h:evOp cfg lv slot o st c=some res) (I:Inv C ts w a st wr g):o.wp P a w (Post C ts c res) Q:=by
 simp only [evOp,ho] at h
 obtain ⟨av,h,H⟩:=Yd h I.good.env
 obtain ⟨u,av',h1,h2,h⟩:=Xfb (P:=P) hT I.good.rel h H
 exact Zs (by simp only [execOp,ho]) h1 (I.put h h2)
theorem Inv.stored {st':St} {g':Gh} {b q:Nat} {us:List Value} (I:Inv C ts w a st wr g) (G:Good (w.setCells b q us) wr ts a.tmps.toList st' g') (hw:∀ i,i<us.length→wr b (q+i)):Inv C ts (w.setCells b q us) a st' wr g' :=
 ⟨G,I.fr.setCells (fun i hi hb=>I.can _ _ (hw i hi) hb),I.can,I.dom,I.nodef⟩
theorem VR.unit {h:Heap} {g:Gh}:VR w h g Go.undef (.tup []):=.tup .nil
theorem Xyt (hT:Z2 P cfg.ty) {t:TypeId} {x y:Operand} {Q:Exit→Act→World→Prop} (ho:o.op=.store t x y) (h:evOp cfg lv slot o st c=some res) (I:Inv C ts w a st wr g):o.wp P a w (Post C ts c res) Q:=by
 simp only [evOp,ho] at h
 obtain ⟨ax,h,Hx⟩:=Yd h I.good.env
 obtain ⟨ay,h,Hy⟩:=Yd h I.good.env
 obtain ⟨w',st',g',h1,h,G,b,q,us,rfl,hw⟩:=Xp6 (P:=P) hT h I.good Hx Hy
 exact X05 (by simp only [execOp,ho]) h1 ((I.stored G hw).put h .unit)
theorem Xrh {x:Operand} {Q:Exit→Act→World→Prop} (ho:o.op=.nilCheck x) (h:evOp cfg lv slot o st c=some res) (I:Inv C ts w a st wr g):o.wp P a w (Post C ts c res) Q:=by
 simp only [evOp,ho] at h
 obtain ⟨av,h,H⟩:=Yd h I.good.env
 have fin:∀ v,a.eval x=v→execOp a.eval o=pure (.value v)→Post C ts c res (a.put o.dst v) w→o.wp P a w (Post C ts c res) Q:=by
  intro v _ hx hp
  unfold Oper.wp
  rw [hx]
  exact hp
 split at h
 ·generalize hx:a.eval x=vx at H
  have H0:=H
  cases H
  exact fin _ hx (by simp only [execOp,ho,hx]) (I.put h H0)
 ·generalize hx:a.eval x=vx at H
  have H0:=H
  cases H
  exact fin _ hx (by simp only [execOp,ho,hx]) (I.put h H0)
 ·cases h
theorem Xtk {x:Operand} {i:Nat} {Q:Exit→Act→World→Prop} (ho:o.op=.extract x i) (h:evOp cfg lv slot o st c=some res) (I:Inv C ts w a st wr g):o.wp P a w (Post C ts c res) Q:=by
 simp only [evOp,ho] at h
 obtain ⟨av,h,H⟩:=Yd h I.good.env
 split at h
 ·generalize hx:a.eval x=vx at H
  cases H with
  | tup H =>
    obtain ⟨av,h1,h⟩:=Uq h
    obtain ⟨v,h2,h3⟩:=H.get h1
    refine Zs (s:=Instr.extract (a.eval x) i) (v:=v) (w':=w) (by simp only [execOp,ho]) ?_ (I.put h h3)
    rw [hx]
    simp [Instr.extract,h2]
 ·cases h
theorem Fr.alloc {w0:World} {wr0:CS} (F:Fr w0 wr0 w) (ob:Obj):Fr w0 wr0 (w.alloc ob):=by
 refine ⟨F.os,F.tape,F.output,?_,fun b hb hn=>?_,fun b cs e fz hb=>?_⟩
 ·have:=F.size
  show _≤(w.heap.push ob).size
  simp
  omega
 ·rw [Xjl (Nat.lt_of_lt_of_le hb F.size)]
  exact F.block b hb hn
 ·obtain ⟨cs',h1,h2,h3⟩:=F.cells b cs e fz hb
  refine ⟨cs',?_,h2,h3⟩
  rw [Xjl]
  ·exact h1
  ·rcases Nat.lt_or_ge b w.heap.size with h | h
   ·exact h
   ·rw [Array.getElem?_eq_none h] at h1;cases h1
theorem Inv.alloc {ob:Obj} {st':St} {g':Gh} (I:Inv C ts w a st wr g) (G:Good (w.alloc ob) (Xgt wr w.heap.size) ts a.tmps.toList st' g'):Inv C ts (w.alloc ob) a st' (Xgt wr w.heap.size) g' :=
 ⟨G,I.fr.alloc ob,fun b q hw hb=>by
  rcases hw with hw | rfl
  ·exact I.can b q hw hb
  ·have:=I.fr.size
   omega,I.dom,I.nodef⟩
theorem Xri {fn:Fn} {fs cs:Array Operand} {Q:Exit→Act→World→Prop} (ho:o.op=.makeFunc fn fs cs) (h:evOp cfg lv slot o st c=some res) (I:Inv C ts w a st wr g):o.wp P a w (Post C ts c res) Q:=by
 simp only [evOp,ho] at h
 split at h
 ·rename_i _ f hfs
  obtain ⟨avs,h,H⟩:=Xa8 I.good.env h
  have hf:fs=#[]:=by simpa using hfs
  subst hf
  refine Zs (s:=Instr.makeFunc (.func f) (#[].map a.eval) (cs.map a.eval)) (v:=.func (.func f) #[] (cs.map a.eval)) (w':=w) (by simp only [execOp,ho]) (by simp [Instr.makeFunc]) (I.put h ?_)
  have:=VR.fn (f:=f) H
  rw [show (cs.toList.map a.eval).toArray=cs.map a.eval by rw [←Array.toList_map]] at this
  exact this
 ·cases h
theorem Xjm {z:AV} {u:Value} (h:zv z=some u) (w:World) (K:CS) (S:BS):TR w true K S u z∧isX z=false:=by
 cases z <;> simp only [zv,Option.some.injEq] at h <;> try (cases h;done)
 case bool=>subst h;exact ⟨.bool _,rfl⟩
 case int=>subst h;exact ⟨.int _ _,rfl⟩
 case str=>subst h;exact ⟨.str _,rfl⟩
 case nilp=>subst h;exact ⟨.nilp,rfl⟩
 case nilf=>subst h;exact ⟨.nilf,rfl⟩
 case lst sz rows =>
  split at h
  ·cases h;exact ⟨.nil,rfl⟩
  ·cases h
theorem TyOK.zeros {t:TypeId} {x:TInfo} (h:TyOK P t x):∃ i z,P.info? t=some i∧i.size=x.size∧i.bytes=x.bytes∧i.zero=some z∧z.cells.size=x.size∧x.zero.length=x.size ∧
 ∀ j av,x.zero[j]?=some av→zv av=some (z.cells.getD j default):=by
 obtain ⟨_,⟨ii,z,hi1,hi2,hi3,hi4,hi5⟩,hzl,_⟩:=h
 have hl:=congrArg List.length hi5
 simp only [List.length_map,Array.length_toList] at hl
 refine ⟨ii,z,hi1,hi2,hi3,hi4,by omega,hzl,fun j av ha=>?_⟩
 have:=congrArg (·[j]?) hi5
 simp only [List.getElem?_map,ha,Option.map_some] at this
 cases hq:z.cells.toList[j]? with
 | none=>rw [hq] at this;simp at this
 | some u =>
   rw [hq] at this
   simp at this
   rw [←this,Array.getD_eq_getD_getElem?,←Array.getElem?_toList,hq]
   rfl
theorem TyOK.run {t:TypeId} {x:TInfo} (h:TyOK P t x):∃ d,(underlying t).run P w=.ok d w∧ShOK x.shape d:=by
 obtain ⟨⟨d,hd,hs⟩,_⟩:=h
 exact ⟨d,run_underlying hd w,hs⟩
theorem Xyu (hT:Z2 P cfg.ty) {t:TypeId} {Q:Exit→Act→World→Prop} (ho:o.op=.alloc t) (h:evOp cfg lv slot o st c=some res) (I:Inv C ts w a st wr g):o.wp P a w (Post C ts c res) Q:=by
 simp only [evOp,ho] at h
 obtain ⟨x,hx,h⟩:=Y1 h
 obtain ⟨hs,h⟩:=W2 h
 obtain ⟨ii,z,hi1,hi2,hi3,hi4,hzc,hzl,hz⟩:=(hT _ hx).zeros
 have D:Grid w wr st.heap g true x.size [x.zero] z.cells (fun _ _ _=>False):=by
  refine ⟨fun row hr=>by simp at hr;subst hr;exact hzl,fun i j row av hr ha=>?_,fun _ _ _ h=>h.elim,fun _ _ _ _ _ h=>h.elim⟩
  cases i with
  | succ i=>simp at hr
  | zero =>
    simp at hr
    subst hr
    rw [Nat.zero_mul,Nat.zero_add]
    obtain ⟨k1,k2⟩:=Xjm (hz j av ha) w (Kr w wr false) (fun _=>False)
    exact ⟨fun _=>k1,fun h=>by rw [k2] at h;cases h⟩
 obtain ⟨g',h1,h2,_⟩:=I.good.block (e:=t) hs 1 D (by simp) (by simp [hzc]) (fun _=>rfl) (hT _ hx).pos
 exact Zs (s:=Instr.alloc t true (.tuple #[])) (by simp only [execOp,ho])
  (by simp [Instr.alloc,zeroValue,typeInfo,hi1,hi4,newVar,newRow]) ((I.alloc h1).put h (.ptr h2))
end
end Go.Abs
namespace Go.Abs
theorem Xmb {x y:R} {res:Res} (h:both x y=some res):x=some res∧y=some res:=by
 unfold both at h
 split at h
 ·rename_i e
  exact ⟨h,e▸h⟩
 ·cases h
theorem Xyv {l:List (TypeId×Nat)} {t:TypeId} {k:Nat→R} {res:Res} (h:memT l t k=some res):∃ c,(t,c)∈l∧k c=some res:=by
 induction l with
 | nil=>simp [memT] at h
 | cons a l ih =>
   obtain ⟨t',c⟩:=a
   simp only [memT] at h
   split at h
   ·rename_i e
    subst e
    exact ⟨c,List.mem_cons_self,h⟩
   ·obtain ⟨c,h1,h2⟩:=ih h
    exact ⟨c,List.mem_cons_of_mem _ h1,h2⟩
theorem Xog:∀ {c:Nat} {m:List AV},Xls c m=true→∃ al:List Int,m=al.map (AV.int .i64)∧al.length=c
 | 0,[],_=>⟨[],rfl,rfl⟩
 | c+1,v::l,h=>by
   simp only [Xls] at h
   split at h
   ·split at h
    ·rename_i n _
     obtain ⟨al,h1,h2⟩:=Xog h
     exact ⟨n::al,by rw [h1];rfl,by simp [h2]⟩
    ·cases h
   ·cases h
 | 0,_::_,h=>by simp [Xls] at h
 | _+1,[],h=>by simp [Xls] at h
def Xbg:List AV→List AV→Option Bool
 | [],[]=>some true
 | a::x,b::y=>match a,b with
   | .int c m,.int d n=>if c=d then (Xbg x y).map (m==n&&·) else none
   | .bool m,.bool n=>(Xbg x y).map (m==n&&·)
   | .str m,.str n=>(Xbg x y).map (m==n&&·)
   | _,_=>none
 | _,_=>none
theorem Xrj {m n:List AV} {k:Bool→R} {res:Res} (h:Uc m n k=some res):∃ b,Xbg m n=some b∧k b=some res:=by
 induction m generalizing n k with
 | nil=>cases n with
   | nil=>exact ⟨true,rfl,h⟩
   | cons=>simp [Uc] at h
 | cons a m ih=>cases n with
   | nil=>simp [Uc] at h
   | cons b n =>
     simp only [Uc] at h
     split at h
     ·split at h
      ·rename_i hd
       obtain ⟨t,h1,h2⟩:=ih h
       simp only [decide_eq_true_eq] at hd
       exact ⟨_,by simp [Xbg,hd,h1],h2⟩
      ·cases h
     ·obtain ⟨t,h1,h2⟩:=ih h
      exact ⟨_,by simp [Xbg,h1],h2⟩
     ·obtain ⟨t,h1,h2⟩:=ih h
      exact ⟨_,by simp [Xbg,h1],h2⟩
     ·cases h
def EqOK (P:Program) (t:TypeId) (c:Nat):Prop:=P.eqGuardType P.depth t=false∧∀ (al bs:List Int) (w:World),al.length=c→bs.length=c →
 (Op.equal t (.agg (al.map (Value.int .i64)).toArray) (.agg (bs.map (Value.int .i64)).toArray)).run P w=.ok (decide (al=bs)) w
theorem Xkl:∀ {al:List Int} {n:List AV} {b:Bool},Xbg (al.map (AV.int .i64)) n=some b→∃ bs:List Int,n=bs.map (AV.int .i64)∧bs.length=al.length∧b=decide (al=bs)
 | [],[],b,h=>⟨[],rfl,rfl,by simp [Xbg] at h;simp [h]⟩
 | [],_::_,b,h=>by simp [Xbg] at h
 | _::_,[],b,h=>by simp [Xbg] at h
 | a::al,v::n,b,h=>by
   simp only [List.map_cons,Xbg] at h
   split at h
   ·rename_i c1 m1 d1 n1 e1
    simp only [AV.int.injEq] at e1
    obtain ⟨rfl,rfl⟩:=e1
    split at h
    ·rename_i e2
     subst e2
     obtain ⟨b',h1,h2⟩:=Option.map_eq_some_iff.1 h
     obtain ⟨bs,h3,h4,h5⟩:=Xkl h1
     refine ⟨n1::bs,by rw [h3];rfl,by simp [h4],?_⟩
     rw [←h2,h5]
     by_cases e:a=n1
     ·subst e;simp
     ·simp [e]
    ·cases h
   ·rename_i e1;exact nomatch e1
   ·rename_i e1;exact nomatch e1
   ·cases h
theorem Xmc {w:World} {h:Heap} {g:Gh}:∀ {al:List Int} {vs:List Value},VRs w h g vs (al.map (AV.int .i64))→vs=al.map (Value.int .i64)
 | [],_,.nil=>rfl
 | a::al,_,.cons h1 h2=>by
   cases h1
   rw [Xmc h2]
   rfl
section
variable {P:Program} {cfg:Cfg} {lv:Lev} {C:Ctx} {ts:List (List Value)} {w w':World} {a:Act} {st:St} {wr:Wrs} {g:Gh} {c:St→R} {res:Res} {o:Oper} {slot:Nat}
theorem X08 {op:UnOp} {t:TypeId} {x:Operand} {Q:Exit→Act→World→Prop} (ho:o.op=.unOp op t x) (h:evOp cfg lv slot o st c=some res) (I:Inv C ts w a st wr g):o.wp P a w (Post C ts c res) Q:=by
 simp only [evOp,ho] at h
 obtain ⟨av,h,H⟩:=Yd h I.good.env
 generalize hx:a.eval x=vx at H
 unfold unOp at h
 split at h
 ·cases H
  exact Zs (s:=Op.unary .neg (a.eval x)) (by simp only [execOp,ho]) (by rw [hx];simp [Op.unary,Op.intArith]) (I.put h (.int _ _))
 ·cases H
  exact Zs (s:=Op.unary .not (a.eval x)) (by simp only [execOp,ho]) (by rw [hx];simp [Op.unary]) (I.put h (.bool _))
 ·cases h
theorem Xrk {op:BinOp} {kd:IntKind} {m n:Int} {k:AV→R} (h:Xux op kd m n k=some res) (t:TypeId) (hop:op≠.shl∧op≠.shr) :
 ∃ v av,(Go.binOp op t (.int kd m) (.int kd n)).run P w=.ok v w∧(∀ h g,VR w h g v av)∧k av=some res:=by
 cases op <;> simp only [Xux] at h <;> try (cases h;done)
 all_goals first
  | exact absurd rfl hop.1
  | exact absurd rfl hop.2
  | (refine ⟨_,_,?_,fun _ _=>.int _ _,h⟩
     simp [Go.binOp,Op.intArith,Op.intBits])
  | (refine ⟨_,_,?_,fun _ _=>.bool _,h⟩
     simp [Go.binOp,Op.intCmp])
  | (rcases Z7 h with ⟨_,h⟩ | ⟨hd,h⟩
     ·cases h
     ·simp only [decide_eq_false_iff_not] at hd
      refine ⟨_,_,?_,fun _ _=>.int _ _,h⟩
      simp [Go.binOp,Op.intDiv,hd])
theorem Xrl {op:BinOp} {m n:ByteArray} {k:AV→R} (h:Xuy op m n k=some res) (t:TypeId) :
 ∃ v av,(Go.binOp op t (.string m) (.string n)).run P w=.ok v w∧(∀ h g,VR w h g v av)∧k av=some res:=by
 cases op <;> simp only [Xuy] at h <;> try (cases h;done)
 all_goals first
  | (refine ⟨_,_,?_,fun _ _=>.bool _,h⟩
     simp [Go.binOp,Op.stringOp])
  | (rcases Z7 h with ⟨hd,h⟩ | ⟨_,h⟩
     ·simp only [decide_eq_true_eq] at hd
      refine ⟨_,_,?_,fun _ _=>.str _,h⟩
      have:¬(((m.size+n.size:Nat):Int)>IntKind.i64.max):=by
       have e:IntKind.i64.max=9223372036854775807:=by decide
       omega
      simp only [Go.binOp,Op.stringOp,if_neg this]
      rfl
     ·cases h)
theorem Rel.nil_of {h:Heap} {g:Gh} (R:Rel w wr h g) {r:Nat} {p:Path} {n cp sz:Nat} {rows:Rows} (hh:Yq w h g r p=some (.slice none n cp,sz,rows)):rows.length=0:=by
 obtain ⟨x,hx,hp,hv⟩:=Yr hh
 obtain ⟨v',hw,hc⟩:=R.walks hx hp hv
 rw [hh] at hw
 cases hw
 rcases hc with ⟨rfl,hb⟩ | ⟨S,ht,_⟩
 ·have hR:=R.root r x hx
  unfold Zu at hR
  cases hvt:x.virt with
  | true=>exact absurd rfl (hv hvt)
  | false =>
    simp only [hvt,hb] at hR
    obtain ⟨b,o,cs,e,fz,f,h1,_⟩:=hR
    rw [Y2 hx] at hh
    simp only [hvt,walk,Option.some.injEq,Prod.mk.injEq] at hh
    rw [h1] at hh
    cases hh.1
 ·rcases ht.lst_inv with ⟨rfl,_⟩ | ⟨b,o,c,cs,e,fz,f,h1,_⟩
  ·rfl
  ·cases h1
theorem X09 (n:Nat) {t:TypeId} {x y:Bool} (hd:(underlying t).run P w=.ok .bool w):(Op.equalIn (n+1) t (.bool x) (.bool y)).run P w=.ok (x==y) w:=by
 simp only [Op.equalIn,Sem.run_bind,hd,Result.andThen_ok]
 rfl
theorem Xyw (n:Nat) {t e:TypeId} {aa:Option Addr} {l cp:Nat} (hd:(underlying t).run P w=.ok (.slice e) w):(Op.equalIn (n+1) t (.slice aa l cp) (.slice none 0 0)).run P w=.ok aa.isNone w:=by
 simp only [Op.equalIn,Sem.run_bind,hd,Result.andThen_ok]
 cases aa <;> rfl
theorem Xyx (n:Nat) {t e:TypeId} {aa:Option Addr} (hd:(underlying t).run P w=.ok (.pointer e) w):(Op.equalIn (n+1) t (.pointer aa) (.pointer none)).run P w=.ok aa.isNone w:=by
 simp only [Op.equalIn,Sem.run_bind,hd,Result.andThen_ok]
 cases aa <;> rfl
theorem X1a (n:Nat) {t:TypeId} {x y z} (hd:(underlying t).run P w=.ok (.func x y z) w):(Op.equalIn (n+1) t .nilFunc .nilFunc).run P w=.ok true w:=by
 simp only [Op.equalIn,Sem.run_bind,hd,Result.andThen_ok]
 rfl
theorem X1b (n:Nat) {t:TypeId} {x y z} {f:Fn} {c1 c2:Array Value} (hd:(underlying t).run P w=.ok (.func x y z) w):(Op.equalIn (n+1) t (.func f c1 c2) .nilFunc).run P w=.ok false w:=by
 simp only [Op.equalIn,Sem.run_bind,hd,Result.andThen_ok]
 rfl
theorem Xdp (t:TypeId) (x y:Value):Op.equal t x y=Op.equalIn (9999+1) t x y:=rfl
theorem Xtl (hT:Z2 P cfg.ty) (hE:∀ t∈cfg.eqs,EqOK P t.1 t.2) {t:TypeId} {va vb:Value} {x y:AV} {k:Bool→R} (I:Inv C ts w a st wr g) (h:eqOp cfg t st.heap x y k=some res) (Hx:VR w st.heap g va x) (Hy:VR w st.heap g vb y)
 (op:BinOp) (p q:Operand):∃ b,(Op.equal t va vb).run P w=.ok b w∧k b=some res∧(eqGuard op t p q va vb).run P w=.ok () w∧(∀ kd n,va≠.int kd n)∧(∀ s,va≠.string s)∧(∀ kd n,va≠.float kd n)∧(∀ kd m n,va≠.complex kd m n):=by
 unfold eqOp at h
 obtain ⟨ti,hti,h⟩:=Y1 h
 obtain ⟨d,hd,hsh⟩:=(hT _ hti).run (w:=w)
 simp only at hd hsh
 obtain ⟨sh,hs⟩:∃ sh,sh=ti.shape:=⟨_,rfl⟩
 rw [←hs] at h hsh
 have noGuard:(∀ xs,va≠.agg xs)→va≠.nilIface→(eqGuard op t p q va vb).run P w=.ok () w:=by
  intro h1 h2
  unfold eqGuard
  cases hm:!(match op with | .eql | .neq=>true | _=>false) with
  | true=>simp [hm]
  | false =>
    simp only [hm,Bool.false_eq_true,if_false]
    split
    ·exact absurd rfl h2
    ·exact absurd rfl (h1 _)
    ·rfl
 have none_run:∀ (aa:Option Addr) (n cp e:Nat),d=.slice e→(Op.equal t (.slice aa n cp) (.slice none 0 0)).run P w=.ok aa.isNone w:=by
  intro aa n cp e he
  subst he
  rw [Xdp]
  exact Xyw 9999 hd
 split at h
 ·
  cases hsh
  cases Hx
  cases Hy
  refine ⟨_,?_,h,noGuard ((fun _ h=>nomatch h)) ((fun h=>nomatch h)),(fun _ _ h=>nomatch h),(fun _ h=>nomatch h),(fun _ _ h=>nomatch h),(fun _ _ _ h=>nomatch h)⟩
  rw [Xdp]
  exact X09 9999 hd
 ·
  obtain ⟨c,hm,h⟩:=Xyv h
  split at h
  case h_2=>cases h
  rename_i hint
  obtain ⟨al,rfl,hlen⟩:=Xog hint
  obtain ⟨b,hb,h⟩:=Xrj h
  obtain ⟨bs,rfl,hlen2,rfl⟩:=Xkl hb
  obtain ⟨hg,he⟩:=hE _ hm
  cases Hx with
  | agg H1 =>
    cases Hy with
    | agg H2 =>
      rw [Xmc H1,Xmc H2]
      refine ⟨_,he al bs w hlen (by omega),h,run_eqGuard_agg w op t p q _ _ hg,(fun _ _ h=>nomatch h),(fun _ h=>nomatch h),(fun _ _ h=>nomatch h),(fun _ _ _ h=>nomatch h)⟩
 ·cases Hx
  cases Hy
  exact ⟨_,none_run none 0 0 _ hsh,h,noGuard ((fun _ h=>nomatch h)) ((fun h=>nomatch h)),(fun _ _ h=>nomatch h),(fun _ h=>nomatch h),(fun _ _ h=>nomatch h),(fun _ _ _ h=>nomatch h)⟩
 ·cases Hy
  cases Hx with
  | ref h1 =>
    obtain ⟨aa,n,cp,rfl,hn⟩:=I.good.rel.slice_of h1
    refine ⟨_,none_run aa n cp _ hsh,?_,noGuard ((fun _ h=>nomatch h)) ((fun h=>nomatch h)),(fun _ _ h=>nomatch h),(fun _ h=>nomatch h),(fun _ _ h=>nomatch h),(fun _ _ _ h=>nomatch h)⟩
    obtain ⟨x,sz,rows',hres,h⟩:=Ul h
    have hrows:rows'.length=n:=by
     obtain ⟨x',hx',hr',_⟩:=Yr h1
     simp only [Abs.res,hx',hr',Option.some.injEq,Prod.mk.injEq] at hres
     rw [←hres.2.2,hn]
    rcases Z7 h with ⟨_,h⟩ | ⟨hz,h⟩
    ·obtain ⟨h1,h2⟩:=Xmb h
     cases aa <;> assumption
    ·simp only [decide_eq_false_iff_not] at hz
     cases aa with
     | none=>have:=I.good.rel.nil_of h1;omega
     | some=>exact h
 ·rename_i len _
  cases Hy
  cases Hx with
  | sub h1 hl h2 =>
    have key:∃ aa cp,va=.slice aa len cp∧(aa=none→len=0):=by
     rcases h2 with ⟨b,o,n,c,c',rfl,rfl,_⟩ | ⟨rfl,a,rfl⟩
     ·exact ⟨_,_,rfl,fun h=>by cases h⟩
     ·exact ⟨_,_,rfl,fun _=>rfl⟩
    obtain ⟨aa,cp,rfl,hn⟩:=key
    refine ⟨_,none_run aa len cp _ hsh,?_,noGuard ((fun _ h=>nomatch h)) ((fun h=>nomatch h)),(fun _ _ h=>nomatch h),(fun _ h=>nomatch h),(fun _ _ h=>nomatch h),(fun _ _ _ h=>nomatch h)⟩
    rcases Z7 h with ⟨_,h⟩ | ⟨hz,h⟩
    ·obtain ⟨h1,h2⟩:=Xmb h
     cases aa <;> assumption
    ·simp only [decide_eq_false_iff_not] at hz
     cases aa with
     | none=>exact absurd (hn rfl) hz
     | some=>exact h
 ·cases Hy
  split at h
  ·cases Hx
   refine ⟨_,none_run _ 0 0 _ hsh,?_,noGuard ((fun _ h=>nomatch h)) ((fun h=>nomatch h)),(fun _ _ h=>nomatch h),(fun _ h=>nomatch h),(fun _ _ h=>nomatch h),(fun _ _ _ h=>nomatch h)⟩
   obtain ⟨h1,h2⟩:=Xmb h
   rename_i aa
   cases aa <;> assumption
  ·cases h
 ·cases hsh
  cases Hx
  cases Hy
  refine ⟨_,?_,h,noGuard ((fun _ h=>nomatch h)) ((fun h=>nomatch h)),(fun _ _ h=>nomatch h),(fun _ h=>nomatch h),(fun _ _ h=>nomatch h),(fun _ _ _ h=>nomatch h)⟩
  rw [Xdp]
  exact Xyx 9999 hd
 ·cases hsh
  cases Hx
  cases Hy
  refine ⟨_,?_,h,noGuard ((fun _ h=>nomatch h)) ((fun h=>nomatch h)),(fun _ _ h=>nomatch h),(fun _ h=>nomatch h),(fun _ _ h=>nomatch h),(fun _ _ _ h=>nomatch h)⟩
  rw [Xdp]
  exact Xyx 9999 hd
 ·obtain ⟨_,_,_,rfl⟩:=hsh
  cases Hx
  cases Hy
  refine ⟨_,?_,h,noGuard ((fun _ h=>nomatch h)) ((fun h=>nomatch h)),(fun _ _ h=>nomatch h),(fun _ h=>nomatch h),(fun _ _ h=>nomatch h),(fun _ _ _ h=>nomatch h)⟩
  rw [Xdp]
  exact X1a 9999 hd
 ·obtain ⟨_,_,_,rfl⟩:=hsh
  cases Hx
  cases Hy
  refine ⟨_,?_,h,noGuard ((fun _ h=>nomatch h)) ((fun h=>nomatch h)),(fun _ _ h=>nomatch h),(fun _ h=>nomatch h),(fun _ _ h=>nomatch h),(fun _ _ _ h=>nomatch h)⟩
  rw [Xdp]
  exact X1b 9999 hd
 ·cases h
theorem Xgu (op:BinOp) (t:TypeId) (x y:Operand) {va vb:Value} (h1:∀ xs,va≠.agg xs) (h2:va≠.nilIface):(eqGuard op t x y va vb).run P w=.ok () w:=by
 cases op <;> cases va <;> first | rfl | exact absurd rfl h2 | exact absurd rfl (h1 _)
theorem Xmd {op:BinOp} {kd kd':IntKind} {m n:Int} {k:AV→R} (h:shOp op kd m n k=some res) (t:TypeId) :
 ∃ v av,(Go.binOp op t (.int kd m) (.int kd' n)).run P w=.ok v w∧(∀ h g,VR w h g v av)∧k av=some res:=by
 cases op <;> simp only [shOp] at h <;> try (cases h;done)
 all_goals
  rcases Z7 h with ⟨_,h⟩ | ⟨hd,h⟩
  ·cases h
  ·simp only [decide_eq_false_iff_not] at hd
   refine ⟨_,_,?_,fun _ _=>.int _ _,h⟩
   simp [Go.binOp,Op.shift,hd]
theorem Xp8 {op:BinOp} {kd kd':IntKind} {m n:Int} {k:AV→R} {hp:Heap} (t:TypeId) (h:binOp cfg op t hp (.int kd m) (.int kd' n) k=some res) :
 ∃ v av,(Go.binOp op t (.int kd m) (.int kd' n)).run P w=.ok v w∧(∀ h g,VR w h g v av)∧k av=some res:=by
 unfold binOp at h
 simp only at h
 split at h
 ·exact Xmd h t
 ·exact Xmd h t
 ·rename_i n1 n2
  split at h
  ·rename_i hd
   simp only [decide_eq_true_eq] at hd
   subst hd
   exact Xrk h t ⟨fun e=>n1 e,fun e=>n2 e⟩
  ·cases h
theorem Xwv {op:BinOp} {t:TypeId} {va vb:Value} {b:Bool} (hop:op=.eql∨op=.neq) (h:(Op.equal t va vb).run P w=.ok b w) (h1:∀ kd n,va≠.int kd n) (h2:∀ s,va≠.string s) (h3:∀ kd n,va≠.float kd n) (h4:∀ kd m n,va≠.complex kd m n) :
 (Go.binOp op t va vb).run P w=.ok (.bool (if op=.eql then b else !b)) w:=by
 rcases hop with rfl | rfl
 ·have:Go.binOp .eql t va vb=(do pure (.bool (←Op.equal t va vb))):=by
   cases va <;> first | rfl | exact absurd rfl (h1 _ _) | exact absurd rfl (h2 _) | exact absurd rfl (h3 _ _) | exact absurd rfl (h4 _ _ _)
  rw [this]
  simp [h]
 ·have:Go.binOp .neq t va vb=(do pure (.bool (!(←Op.equal t va vb)))):=by
   cases va <;> first | rfl | exact absurd rfl (h1 _ _) | exact absurd rfl (h2 _) | exact absurd rfl (h3 _ _) | exact absurd rfl (h4 _ _ _)
  rw [this]
  simp [h]
theorem Xyy (hT:Z2 P cfg.ty) (hE:∀ t∈cfg.eqs,EqOK P t.1 t.2) {op:BinOp} {t t':TypeId} {x y:Operand} {Q:Exit→Act→World→Prop} (ho:o.op=.binOp op t x y t') (h:evOp cfg lv slot o st c=some res) (I:Inv C ts w a st wr g):o.wp P a w (Post C ts c res) Q:=by
 simp only [evOp,ho] at h
 obtain ⟨ax,h,Hx⟩:=Yd h I.good.env
 obtain ⟨ay,h,Hy⟩:=Yd h I.good.env
 have fin:∀ v av,(eqGuard op t x y (a.eval x) (a.eval y)).run P w=.ok () w→(Go.binOp op t (a.eval x) (a.eval y)).run P w=.ok v w→VR w st.heap g v av→putD st o.dst av c=some res→o.wp P a w (Post C ts c res) Q:=by
  intro v av h1 h2 h3 h4
  exact Zs (s:=do eqGuard op t x y (a.eval x) (a.eval y);Go.binOp op t (a.eval x) (a.eval y)) (v:=v) (w':=w) (by simp only [execOp,ho]) (by simp only [Sem.run_bind,h1,Result.andThen_ok,h2]) (I.put h4 h3)
 have other:∀ k:Bool→R,(op=.eql∨op=.neq)→eqOp cfg t st.heap ax ay k=some res→(∀ b,k b=putD st o.dst (.bool (if op=.eql then b else !b)) c)→o.wp P a w (Post C ts c res) Q:=by
  intro k hop h hk
  obtain ⟨b,h1,h2,h3,h4,h5,h6,h7⟩:=Xtl (P:=P) hT hE I h Hx Hy op x y
  rw [hk] at h2
  exact fin _ _ h3 (Xwv hop h1 h4 h5 h6 h7) (.bool _) h2
 by_cases hint:(∃ k n,ax=.int k n)∧∃ k n,ay=.int k n
 ·obtain ⟨⟨k1,n1,rfl⟩,k2,n2,rfl⟩:=hint
  generalize a.eval x=vx at Hx fin
  generalize a.eval y=vy at Hy fin
  cases Hx
  cases Hy
  obtain ⟨v,av,h1,h2,h3⟩:=Xp8 (P:=P) (w:=w) t h
  exact fin v av (Xgu _ _ _ _ (fun _ h=>nomatch h) (fun h=>nomatch h)) h1 (h2 _ _) h3
 ·unfold binOp at h
  split at h
  ·exact absurd ⟨⟨_,_,rfl⟩,_,_,rfl⟩ hint
  ·generalize a.eval x=vx at Hx fin
   generalize a.eval y=vy at Hy fin
   cases Hx
   cases Hy
   obtain ⟨v,av,h1,h2,h3⟩:=Xrl (P:=P) (w:=w) h t
   exact fin v av (Xgu _ _ _ _ (fun _ h=>nomatch h) (fun h=>nomatch h)) h1 (h2 _ _) h3
  ·split at h
   ·exact other _ (.inl rfl) h (fun b=>rfl)
   ·exact other _ (.inr rfl) h (fun b=>rfl)
   ·cases h
end
end Go.Abs
namespace Go.Abs
section
variable {P:Program} {cfg:Cfg} {lv:Lev} {C:Ctx} {ts:List (List Value)} {w w':World} {a:Act} {st:St} {wr:Wrs} {g:Gh} {c:St→R} {res:Res} {o:Oper} {slot:Nat}
theorem TyOK.struct {t:TypeId} {x:TInfo} {fs:List (Nat×TypeId)} (h:TyOK P t x) (hs:x.shape=.struct fs):∃ fa:Array Field,(underlying t).run P w=.ok (.struct fa) w∧∀ (i:Nat) (p:Nat×TypeId),fs[i]?=some p→∃ f:Field,fa[i]?=some f∧f.offset=p.1∧f.type=p.2:=by
 obtain ⟨d,hd,hsh⟩:=h.run (w:=w)
 rw [hs] at hsh
 obtain ⟨fa,rfl,hm⟩:=hsh
 refine ⟨fa,hd,fun i p hp=>?_⟩
 subst hm
 simp only [List.getElem?_map,Option.map_eq_some_iff] at hp
 obtain ⟨f,hf,rfl⟩:=hp
 exact ⟨f,by rw [←Array.getElem?_toList];exact hf,rfl,rfl⟩
theorem TyOK.sized {t:TypeId} {x:TInfo} (h:TyOK P t x):(sizeOf t).run P w=.ok x.size w:=by
 obtain ⟨_,⟨ii,z,hi1,hi2,_⟩,_⟩:=h
 simp [sizeOf,typeInfo,hi1,hi2]
theorem TyOK.agg {t:TypeId} {x:TInfo} (h:TyOK P t x):(isAgg t).run P w=.ok (match x.shape with | .struct _=>true | _=>false) w:=by
 obtain ⟨d,hd,hsh⟩:=h.run (w:=w)
 simp only [isAgg,Sem.run_bind,hd,Result.andThen_ok]
 cases hs:x.shape <;> simp only [hs,ShOK] at hsh
 ·subst hsh;rfl
 ·subst hsh;rfl
 ·subst hsh;rfl
 ·subst hsh;rfl
 ·subst hsh;rfl
 ·obtain ⟨_,_,_,rfl⟩:=hsh;rfl
 ·obtain ⟨_,rfl,_⟩:=hsh;rfl
theorem Xp9 (hT:Z2 P cfg.ty) {s:TypeId} {x:Operand} {f:Nat} {Q:Exit→Act→World→Prop} (ho:o.op=.fieldAddr s x f) (h:evOp cfg lv slot o st c=some res) (I:Inv C ts w a st wr g):o.wp P a w (Post C ts c res) Q:=by
 simp only [evOp,ho] at h
 obtain ⟨av,h,H⟩:=Yd h I.good.env
 obtain ⟨ti,hti,h⟩:=Y1 h
 split at h
 ·rename_i fs r p i j hs _
  split at h
  ·rename_i off ft hf
   obtain ⟨tj,htj,h⟩:=Y1 h
   split at h
   ·cases h
   ·rename_i hne
    generalize hx:a.eval x=vx at H
    cases H with
    | @ptr _ _ _ _ sz rows b oo n cp h1 =>
      obtain ⟨fa,hu,hfs⟩:=(hT _ hti).struct (w:=w) hs
      obtain ⟨fd,hf1,hf2,hf3⟩:=hfs _ _ hf
      simp only at hf2 hf3 hu
      refine Zs (s:=Instr.fieldAt s (a.eval x) f) (v:=.pointer (some ⟨b,oo+i*sz+(j+off),none⟩)) (w':=w) (by simp only [execOp,ho]) ?_ (I.put h (.ptr h1))
      have hsz:=(hT _ htj).sized (w:=w)
      simp only at hsz
      simp only [hx,Instr.fieldAt,Sem.run_bind,hu,Result.andThen_ok,hf1,Instr.sureAddr,Sem.run_pure,fieldPlace,hf3,hsz]
      rw [if_neg (fun e=>hne e)]
      simp only [Sem.run_pure,Result.andThen_ok,hf2,Addr.add_eq,Nat.add_assoc]
  ·cases h
 ·cases h
theorem Xyz (hT:Z2 P cfg.ty) {s:TypeId} {x:Operand} {f:Nat} {Q:Exit→Act→World→Prop} (ho:o.op=.field s x f) (h:evOp cfg lv slot o st c=some res) (I:Inv C ts w a st wr g):o.wp P a w (Post C ts c res) Q:=by
 simp only [evOp,ho] at h
 obtain ⟨av,h,H⟩:=Yd h I.good.env
 obtain ⟨ti,hti,h⟩:=Y1 h
 split at h
 ·rename_i fs cs hs _
  split at h
  ·rename_i off ft hf
   obtain ⟨hol,h⟩:=Xga h
   obtain ⟨tj,htj,h⟩:=Y1 h
   generalize hx:a.eval x=vx at H
   cases H with
   | @agg vs _ H =>
     obtain ⟨fa,hu,hfs⟩:=(hT _ hti).struct (w:=w) hs
     obtain ⟨fd,hf1,hf2,hf3⟩:=hfs _ _ hf
     simp only at hf2 hf3 hu
     have hsz:=(hT _ htj).sized (w:=w)
     have hag:=(hT _ htj).agg (w:=w)
     simp only at hsz hag
     have hvl:=H.length
     split at h
     ·rename_i hst
      obtain ⟨hcl,h⟩:=Xvi h
      rw [hst] at hag
      simp only at hag
      have hlen:off+tj.size≤vs.length:=by simp at hcl;omega
      have Hsub:∀ (n:Nat) {vs:List Value} {cs:List AV},VRs w st.heap g vs cs→VRs w st.heap g (vs.drop n) (cs.drop n):=by
       intro n
       induction n with
       | zero=>intro vs cs H;exact H
       | succ n ih=>intro vs cs H;cases H with
         | nil=>exact .nil
         | cons _ h2=>exact ih h2
      have Htake:∀ (n:Nat) {vs:List Value} {cs:List AV},VRs w st.heap g vs cs→VRs w st.heap g (vs.take n) (cs.take n):=by
       intro n
       induction n with
       | zero=>intro vs cs H;exact .nil
       | succ n ih=>intro vs cs H;cases H with
         | nil=>exact .nil
         | cons h1 h2=>exact .cons h1 (ih h2)
      refine Zs (s:=Instr.field s (a.eval x) f) (v:=.agg (vs.toArray.extract off (off+tj.size))) (w':=w) (by simp only [execOp,ho]) ?_ (I.put h ?_)
      ·simp only [hx,Instr.field,Sem.run_bind,hu,Result.andThen_ok,hf1,asAgg,Sem.run_pure,part,hf3,hag,hf2,hsz,if_true]
      ·have:=VR.agg (Htake tj.size (Hsub off H))
       rw [show ((vs.drop off).take tj.size).toArray=vs.toArray.extract off (off+tj.size) by simp] at this
       exact this
     ·rename_i hst
      obtain ⟨av,h1,h⟩:=Uq h
      have hag':(isAgg ft).run P w=.ok false w:=by
       rw [hag]
       split
       ·rename_i fs' hs'
        exact absurd hs' (hst fs')
       ·rfl
      rw [List.getElem?_drop] at h1
      obtain ⟨v,h2,h3⟩:=H.get h1
      rw [Nat.add_zero] at h2
      refine Zs (s:=Instr.field s (a.eval x) f) (v:=v) (w':=w) (by simp only [execOp,ho]) ?_ (I.put h h3)
      simp [hx,Instr.field,hu,hf1,asAgg,part,hf3,hag',hf2,h2]
  ·cases h
 ·cases h
theorem Rel.slice_full {hp:Heap} (R:Rel w wr hp g) {r:Nat} {p:Path} {v:Value} {sz:Nat} {rows:Rows} (hh:Yq w hp g r p=some (v,sz,rows)) :
 (∃ b o cp,v=.slice (some ⟨b,o,none⟩) rows.length cp)∨(rows.length=0∧∃ a,v=.slice a 0 0):=by
 obtain ⟨x,hx,hp,hv⟩:=Yr hh
 obtain ⟨v',hw,hc⟩:=R.walks hx hp hv
 rw [hh] at hw
 cases hw
 rcases hc with ⟨rfl,hb⟩ | ⟨S,ht,_⟩
 ·have hR:=R.root r x hx
  unfold Zu at hR
  cases hvt:x.virt with
  | true=>exact absurd rfl (hv hvt)
  | false =>
    simp only [hvt,hb] at hR
    obtain ⟨b,o,cs,e,fz,f,h1,_⟩:=hR
    rw [Y2 hx] at hh
    simp only [hvt,walk,Option.some.injEq,Prod.mk.injEq] at hh
    obtain ⟨rfl,rfl,rfl⟩:=hh
    exact .inl ⟨_,_,_,h1⟩
 ·rcases ht.lst_inv with ⟨rfl,a,rfl⟩ | ⟨b,o,c,cs,e,fz,f,rfl,_⟩
  ·exact .inr ⟨rfl,a,rfl⟩
  ·exact .inl ⟨_,_,_,rfl⟩
theorem Xhz {hp:Heap} (RL:Rel w wr hp g) {v:Value} {av:AV} {k:Nat→Path→Nat→Nat→Nat→Rows→R} (h:Xbe hp av k=some res) (H:VR w hp g v av) :
 ∃ r p off len sz rows v0,k r p off len sz rows=some res∧Yq w hp g r p=some (v0,sz,rows)∧off+len≤rows.length ∧
  ((∃ b o n cp c',v0=.slice (some ⟨b,o,none⟩) n cp∧v=.slice (some ⟨b,o+off*sz,none⟩) len c'∧len≤c'∧off+c'≤cp)∨(len=0∧∃ a,v=.slice a 0 0)):=by
 cases H <;> simp only [Xbe] at h <;> try (cases h;done)
 ·rename_i r p sz rows h1
  obtain ⟨x,sz',rows',hres,h⟩:=Ul h
  obtain ⟨x',hx',hr',_⟩:=Yr h1
  simp only [Abs.res,hx',hr',Option.some.injEq,Prod.mk.injEq] at hres
  obtain ⟨_,rfl,rfl⟩:=hres
  refine ⟨r,p,0,rows.length,sz,rows,v,h,h1,by omega,?_⟩
  rcases RL.slice_full h1 with ⟨b,o,cp,rfl⟩ | ⟨h0,a,rfl⟩
  ·refine .inl ⟨b,o,_,cp,cp,rfl,by simp,?_,by omega⟩
   obtain ⟨x2,hx2,hp2,hv2⟩:=Yr h1
   obtain ⟨v',hw,hc⟩:=RL.walks hx2 hp2 hv2
   rw [h1] at hw
   cases hw
   rcases hc with ⟨rfl,hb⟩ | ⟨S,ht,_⟩
   ·have hR:=RL.root r x2 hx2
    unfold Zu at hR
    cases hvt:x2.virt with
    | true=>exact absurd rfl (hv2 hvt)
    | false =>
      simp only [hvt,hb] at hR
      obtain ⟨b',o',cs,e,fz,f,k1,_⟩:=hR
      rw [Y2 hx2] at h1
      simp only [hvt,walk,Option.some.injEq,Prod.mk.injEq] at h1
      obtain ⟨h1,rfl,rfl⟩:=h1
      rw [k1] at h1
      cases h1
      exact Nat.le_refl _
   ·rcases ht.lst_inv with ⟨rfl,a,hv⟩ | ⟨b',o',c',cs,e,fz,f,hv,_,_,hc',_⟩
    ·simp
    ·cases hv
     exact hc'
  ·exact .inr ⟨h0,a,rfl⟩
 ·rename_i r p off len sz rows v0 h1 hl h2
  obtain ⟨x,sz',rows',hres,h⟩:=Ul h
  obtain ⟨x',hx',hr',_⟩:=Yr h1
  simp only [Abs.res,hx',hr',Option.some.injEq,Prod.mk.injEq] at hres
  obtain ⟨_,rfl,rfl⟩:=hres
  refine ⟨r,p,off,len,sz,rows,v0,h,h1,hl,?_⟩
  rcases h2 with ⟨b,o,n,c,c',rfl,rfl,e1,e2⟩ | ⟨rfl,a,rfl⟩
  ·exact .inl ⟨b,o,n,c,c',rfl,rfl,e1,e2⟩
  ·exact .inr ⟨rfl,a,rfl⟩
theorem Xrm (hT:Z2 P cfg.ty) {t:TypeId} {k:Nat→R} (h:Xe1 cfg t k=some res):∃ e n,(underlying t).run P w=.ok (.slice e) w∧(sizeOf e).run P w=.ok n w∧k n=some res:=by
 unfold Xe1 at h
 obtain ⟨x,hx,h⟩:=Y1 h
 split at h
 ·rename_i e hs
  obtain ⟨y,hy,h⟩:=Y1 h
  obtain ⟨d,hd,hsh⟩:=(hT _ hx).run (w:=w)
  simp only [hs,ShOK] at hsh
  subst hsh
  exact ⟨e,_,hd,(hT _ hy).sized,h⟩
 ·cases h
theorem Xqa (hT:Z2 P cfg.ty) {t:TypeId} {x i:Operand} {Q:Exit→Act→World→Prop} (ho:o.op=.indexAddr t x i) (h:evOp cfg lv slot o st c=some res) (I:Inv C ts w a st wr g):o.wp P a w (Post C ts c res) Q:=by
 simp only [evOp,ho] at h
 obtain ⟨av,h,H⟩:=Yd h I.good.env
 obtain ⟨ai,h,Hi⟩:=Yd h I.good.env
 split at h
 ·rename_i kd n
  obtain ⟨e,esz,hu,hsz,hA⟩:=Xrm (P:=P) (w:=w) hT h
  obtain ⟨r,p,off,len,sz,rows,v0,hB,hw,hl,hv⟩:=Xhz I.good.rel hA H
  clear hA h
  split at hB
  ·rename_i hd
   simp only [decide_eq_true_eq] at hd
   subst hd
   rcases Z7 hB with ⟨h0,h⟩ | ⟨_,h⟩
   ·rcases Z7 h with ⟨h1,h⟩ | ⟨_,h⟩
    ·simp only [decide_eq_true_eq] at h0 h1
     rcases hv with ⟨b,oo,m,cp,c',rfl,hva,_⟩ | ⟨rfl,_⟩
     ·generalize hx:a.eval x=vx at H hva
      generalize hi:a.eval i=vi at Hi
      cases Hi
      subst hva
      have fin:putD st o.dst (.ptr r p (off+n.toNat) 0) c=some res→o.wp P a w (Post C ts c res) Q:=by
       intro h
       refine Zs (s:=Instr.indexAt t (a.eval x) (a.eval i)) (v:=.pointer (some ⟨b,oo+(off+n.toNat)*sz+0,none⟩)) (w':=w) (by simp only [execOp,ho]) ?_ (I.put h (.ptr hw))
       rw [hx,hi]
       simp only [Instr.indexAt,asIntOf,Sem.run_bind,Sem.run_pure,Result.andThen_ok,hu]
       rw [if_pos ⟨h0,h1⟩]
       simp only [Sem.run_bind,hsz,Result.andThen_ok,Sem.run_pure,Addr.add_eq]
       congr 4
       rw [Nat.add_mul]
       omega
      split at h
      ·exact fin (by simpa using h)
      ·exact fin h
     ·omega
    ·cases h
   ·cases h
  ·cases hB
 ·cases h
end
end Go.Abs
namespace Go.Abs
section
variable {P:Program} {cfg:Cfg} {lv:Lev} {C:Ctx} {ts:List (List Value)} {w w':World} {a:Act} {st:St} {wr:Wrs} {g:Gh} {c:St→R} {res:Res} {o:Oper} {slot:Nat}
theorem Xww {h:Heap} {g:Gh} {e:List AV} (H:VRs w h g a.tmps.toList e) {lo:Option Operand} {k:Int→R} (hh:loK e lo k=some res):∃ l,k l=some res∧((lo.map a.eval=none∧l=0)∨∃ kd,lo.map a.eval=some (.int kd l)):=by
 cases lo with
 | none=>exact ⟨0,hh,.inl ⟨rfl,rfl⟩⟩
 | some x =>
   simp only [loK] at hh
   obtain ⟨av,hh,H⟩:=Yd hh H
   split at hh
   ·rename_i kd l
    generalize hx:a.eval x=vx at H
    cases H
    exact ⟨l,hh,.inr ⟨kd,by simp [hx]⟩⟩
   ·cases hh
theorem Xoh {h:Heap} {g:Gh} {e:List AV} (H:VRs w h g a.tmps.toList e) {hi:Option Operand} {n:Nat} {k:Int→R} (hh:hiK e hi n k=some res):∃ l,k l=some res∧((hi.map a.eval=none∧l=n)∨∃ kd,hi.map a.eval=some (.int kd l)):=by
 cases hi with
 | none=>exact ⟨n,hh,.inl ⟨rfl,rfl⟩⟩
 | some x =>
   simp only [hiK] at hh
   obtain ⟨av,hh,H⟩:=Yd hh H
   split at hh
   ·rename_i kd l
    generalize hx:a.eval x=vx at H
    cases H
    exact ⟨l,hh,.inr ⟨kd,by simp [hx]⟩⟩
   ·cases hh
theorem Xjn {kd:IntKind} {l:Int} {y:Nat} {cd:BoundsCode} (h0:0≤l) (h1:l≤y):(Instr.sliceBound (.int kd l) y cd).run P w=.ok l.toNat w:=by
 simp only [Instr.sliceBound,asIntOf,Sem.run_bind,Sem.run_pure,Result.andThen_ok]
 rw [if_pos ⟨h0,h1⟩]
 rfl
theorem Xme {isS:Bool} {len cap:Nat} {lo hi:Option Value} {l g:Int} (hlo:(lo=none∧l=0)∨∃ kd,lo=some (.int kd l)) (hhi:(hi=none∧g=len)∨∃ kd,hi=some (.int kd g))
 (h0:0≤l) (h1:l≤g) (h2:g≤len) (hc:len≤cap):(Instr.sliceBounds isS len cap lo hi none).run P w=.ok (l.toNat,g.toNat,cap) w:=by
 have e1:∀ kd cd,(Instr.sliceBound (.int kd g) cap cd).run P w=.ok g.toNat w:=fun kd cd=>Xjn (by omega) (by omega)
 have e2:∀ kd cd,(Instr.sliceBound (.int kd l) g.toNat cd).run P w=.ok l.toNat w:=fun kd cd=>Xjn h0 (by omega)
 have e3:∀ kd cd,g=len→(Instr.sliceBound (.int kd l) len cd).run P w=.ok l.toNat w:=fun kd cd _=>Xjn h0 (by omega)
 rcases hlo with ⟨rfl,rfl⟩ | ⟨kd,rfl⟩ <;> rcases hhi with ⟨rfl,hg⟩ | ⟨kd',rfl⟩
 ·subst hg;simp [Instr.sliceBounds]
 ·simp [Instr.sliceBounds,e1]
 ·have:=e3 kd .sliceB hg
  subst hg
  simp [Instr.sliceBounds,this]
 ·simp [Instr.sliceBounds,e1,e2]
theorem Xy0 (hT:Z2 P cfg.ty) {t:TypeId} {x:Operand} {lo hi mx:Option Operand} {Q:Exit→Act→World→Prop} (ho:o.op=.slice t x lo hi mx) (h:evOp cfg lv slot o st c=some res) (I:Inv C ts w a st wr g):o.wp P a w (Post C ts c res) Q:=by
 simp only [evOp,ho] at h
 cases mx with
 | some _=>cases h
 | none =>
 simp only at h
 obtain ⟨ti,hti,h⟩:=Y1 h
 obtain ⟨av,h,H⟩:=Yd h I.good.env
 obtain ⟨l,h,hl⟩:=Xww I.good.env h
 obtain ⟨d,hd,hsh⟩:=(hT _ hti).run (w:=w)
 simp only at hd hsh
 split at h
 ·rename_i hs
  rw [hs] at hsh
  simp only [ShOK] at hsh
  subst hsh
  split at h
  ·rename_i s _
   obtain ⟨gg,h,hg⟩:=Xoh I.good.env h
   rcases Z7 h with ⟨h0,h⟩ | ⟨_,h⟩
   ·rcases Z7 h with ⟨h1,h⟩ | ⟨_,h⟩
    ·rcases Z7 h with ⟨h2,h⟩ | ⟨_,h⟩
     ·simp only [decide_eq_true_eq] at h0 h1 h2
      generalize hx:a.eval x=vx at H
      cases H
      refine Zs (s:=Instr.sliceAt t (a.eval x) (lo.map a.eval) (hi.map a.eval) none) (v:=.string (s.extract l.toNat gg.toNat)) (w':=w) (by simp only [execOp,ho,Option.map_none]) ?_ (I.put h (.str _))
      simp [hx,Instr.sliceAt,Instr.slice,hd,Xme (P:=P) (w:=w) (isS:=false) hl hg h0 h1 h2 (Nat.le_refl _)]
     ·cases h
    ·cases h
   ·cases h
  ·cases h
 ·rename_i e hs
  rw [hs] at hsh
  simp only [ShOK] at hsh
  subst hsh
  obtain ⟨tj,htj,h⟩:=Y1 h
  have hsz:=(hT _ htj).sized (w:=w)
  simp only at hsz
  obtain ⟨r,p,off,len,sz,rows,v0,hB,hw,hlen,hv⟩:=Xhz I.good.rel h H
  clear h
  split at hB
  ·rename_i hde
   simp only [decide_eq_true_eq] at hde
   rw [←hde] at hsz
   obtain ⟨gg,h,hg⟩:=Xoh I.good.env hB
   rcases Z7 h with ⟨h0,h⟩ | ⟨_,h⟩
   ·rcases Z7 h with ⟨h1,h⟩ | ⟨_,h⟩
    ·rcases Z7 h with ⟨h2,h⟩ | ⟨_,h⟩
     ·simp only [decide_eq_true_eq] at h0 h1 h2
      have h:putD st o.dst (.sub r p (off+l.toNat) (gg.toNat - l.toNat)) c=some res:=by
       split at h
       ·simpa using h
       ·exact h
      have fin:∀ (aa:Option Addr) (cap:Nat) (v:Value),a.eval x=.slice aa len cap→len≤cap→v=.slice (if cap=l.toNat then aa else aa.map (·.add (l.toNat*sz))) (gg.toNat - l.toNat) (cap - l.toNat)→SubV v0 (off+l.toNat) sz (gg.toNat - l.toNat) v→o.wp P a w (Post C ts c res) Q:=by
       intro aa cap v hx hcap hv hsub
       refine Zs (s:=Instr.sliceAt t (a.eval x) (lo.map a.eval) (hi.map a.eval) none) (v:=v) (w':=w) (by simp only [execOp,ho,Option.map_none]) ?_ (I.put h (.sub hw (by omega) hsub))
       simp [hx,hv,Instr.sliceAt,Instr.slice,hd,Xme (P:=P) (w:=w) (isS:=true) hl hg h0 h1 h2 hcap,hsz]
      rcases hv with ⟨b,oo,n,cp,c',rfl,hva,hc1,hc2⟩ | ⟨rfl,aa,hva⟩
      ·refine fin _ c' _ hva hc1 rfl ?_
       by_cases he:c'=l.toNat
       ·rw [if_pos he]
        exact .inr ⟨by omega,_,by rw [show gg.toNat - l.toNat=0 by omega,show c' - l.toNat=0 by omega]⟩
       ·rw [if_neg he]
        refine .inl ⟨b,oo,n,cp,c' - l.toNat,rfl,?_,by omega,by omega⟩
        simp only [Option.map_some,Addr.add_eq]
        rw [Nat.add_mul,←Nat.add_assoc]
      ·refine fin _ 0 _ hva (Nat.le_refl _) rfl ?_
       exact .inr ⟨by omega,_,by rw [show gg.toNat - l.toNat=0 by omega,show 0 - l.toNat=0 by omega]⟩
     ·cases h
    ·cases h
   ·cases h
  ·cases hB
 ·cases h
theorem Xy1 (hT:Z2 P cfg.ty) {t:TypeId} {x i:Operand} {Q:Exit→Act→World→Prop} (ho:o.op=.index t x i) (h:evOp cfg lv slot o st c=some res) (I:Inv C ts w a st wr g):o.wp P a w (Post C ts c res) Q:=by
 simp only [evOp,ho] at h
 obtain ⟨ti,hti,h⟩:=Y1 h
 obtain ⟨d,ht,hsh⟩:=(hT _ hti).run (w:=w)
 simp only at ht hsh
 split at h
 ·rename_i hs
  rw [hs] at hsh
  simp only [ShOK] at hsh
  subst hsh
  obtain ⟨av,h,H⟩:=Yd h I.good.env
  obtain ⟨ai,h,Hi⟩:=Yd h I.good.env
  split at h
  ·rename_i s kd n _
   rcases Z7 h with ⟨h0,h⟩ | ⟨_,h⟩
   ·rcases Z7 h with ⟨h1,h⟩ | ⟨_,h⟩
    ·simp only [decide_eq_true_eq] at h0 h1
     generalize hx:a.eval x=vx at H
     generalize hi:a.eval i=vi at Hi
     cases H
     cases Hi
     have hlt:n.toNat<s.size:=by omega
     refine Zs (s:=Instr.index t (a.eval x) (a.eval i)) (v:=.int .u8 ((s[n.toNat]?).getD 0).toNat) (w':=w) (by simp only [execOp,ho]) ?_ (I.put h (.int _ _))
     have hg:s[n.toNat]?=some s[n.toNat]:=getElem?_pos s n.toNat hlt
     simp [hx,hi,Instr.index,asIntOf,ht,h0,hg]
    ·cases h
   ·cases h
  ·cases h
 ·cases h
end
end Go.Abs
namespace Go.Abs
section
variable {P:Program} {cfg:Cfg} {lv:Lev} {C:Ctx} {ts:List (List Value)} {w w':World} {a:Act} {st:St} {wr:Wrs} {g:Gh} {c:St→R} {res:Res} {o:Oper} {slot:Nat}
theorem Hand.get {h:Heap} {ex:Bool}:∀ {us:List Value} {l:List AV} {Ss:List BS} {j:Nat} {av:AV},Hand w wr h g ex us l Ss→l[j]?=some av→∃ u S,us[j]?=some u∧Ss[j]?=some S∧(isX av=false→TR w true (Kr w wr false) S u av)∧(isX av=true→ex=true∧VR w h g u av)
 | _,_,_,0,_,.cons h1 h2 _ _ _,ha=>by simp at ha;subst ha;exact ⟨_,_,rfl,rfl,h1,h2⟩
 | _,_,_,j+1,_,.cons _ _ _ _ h5,ha=>by
   obtain ⟨u,S,e1,e2,e3⟩:=Hand.get (j:=j) h5 (by simpa using ha)
   exact ⟨u,S,by simpa using e1,by simpa using e2,e3⟩
 | _,_,_,0,_,.nil,ha=>by simp at ha
 | _,_,_,j+1,_,.nil,ha=>by simp at ha
theorem Hand.apart {h:Heap} {ex:Bool}:∀ {us:List Value} {l:List AV} {Ss:List BS},Hand w wr h g ex us l Ss→∀ S∈Ss,∀ k,S k→k<w.heap.size∧∀ r x,h[r]?.join=some x→¬g.F r k
 | _,_,_,.nil,_,hS,_,_=>by simp at hS
 | _,_,_,.cons _ _ h3 _ h5,S,hS,k,hk=>by
   rcases List.mem_cons.1 hS with rfl | hS
   ·exact h3 k hk
   ·exact Hand.apart h5 S hS k hk
theorem Hand.own {h:Heap} {ex:Bool}:∀ {us:List Value} {l:List AV} {Ss:List BS} {i j:Nat} {S S':BS} {k:Nat},Hand w wr h g ex us l Ss→Ss[i]?=some S→Ss[j]?=some S'→S k→S' k→i=j
 | _,_,_,0,0,_,_,_,_,_,_,_,_=>rfl
 | _,_,_,0,j+1,_,_,_,.cons _ _ _ h4 _,hi,hj,h1,h2=>by
   simp at hi hj
   subst hi
   exact absurd h2 (h4 _ (List.mem_of_getElem? hj) _ h1)
 | _,_,_,i+1,0,_,_,_,.cons _ _ _ h4 _,hi,hj,h1,h2=>by
   simp at hi hj
   subst hj
   exact absurd h1 (h4 _ (List.mem_of_getElem? hi) _ h2)
 | _,_,_,i+1,j+1,_,_,_,.cons _ _ _ _ h5,hi,hj,h1,h2=>by
   have:=Hand.own (i:=i) (j:=j) h5 (by simpa using hi) (by simpa using hj) h1 h2
   omega
 | _,_,_,0,j+1,_,_,_,.nil,hi,_,_,_=>by simp at hi
 | _,_,_,i+1,_,_,_,_,.nil,hi,_,_,_=>by simp at hi
def fOf (Ss:List BS) (j k:Nat):Prop:=∃ S,Ss[j]?=some S∧S k
theorem Hand.grid {h:Heap} {ex:Bool} {us:List Value} {l:List AV} {Ss:List BS} {sz:Nat} (H:Hand w wr h g ex us l Ss) (hl:l.length=sz):Grid w wr h g ex sz [l] us.toArray (fun i j k=>i=0∧fOf Ss j k):=by
 refine ⟨fun row hr=>by simp at hr;subst hr;exact hl,fun i j row av hr ha=>?_,fun i j k hk=>?_,fun i j i' j' k h1 h2=>?_⟩
 ·cases i with
  | succ i=>simp at hr
  | zero =>
    simp at hr
    subst hr
    obtain ⟨u,S,e1,e2,e3,e4⟩:=H.get ha
    have e5:us.toArray.getD (0*sz+j) default=u:=by
     rw [Nat.zero_mul,Nat.zero_add]
     simp [Array.getD_eq_getD_getElem?,e1]
    rw [e5]
    exact ⟨fun hx=>(e3 hx).mono (fun k hk=>⟨rfl,S,e2,hk⟩) (fun _ _ _ h=>h),e4⟩
 ·obtain ⟨_,S,h1,h2⟩:=hk
  exact H.apart S (List.mem_of_getElem? h1) k h2
 ·obtain ⟨rfl,S,h3,h4⟩:=h1
  obtain ⟨rfl,S',h5,h6⟩:=h2
  exact ⟨rfl,H.own h3 h5 h4 h6⟩
theorem Xrn {ex:Bool} {us:List Value} {cs:List AV} {Ss:List BS} {st':St} {g':Gh} {tm:List Value} (I:Ins w wr ts tm ex us st g cs Ss st' g'):cs.length=us.length:=I.hand.length.symm
theorem X3t (hT:Z2 P cfg.ty) {t:TypeId} {x:Operand} {Q:Exit→Act→World→Prop} (ho:o.op=.box t x) (h:evOp cfg lv slot o st c=some res) (I:Inv C ts w a st wr g):o.wp P a w (Post C ts c res) Q:=by
 simp only [evOp,ho] at h
 obtain ⟨av,h,H⟩:=Yd h I.good.env
 obtain ⟨y,hy,h⟩:=Y1 h
 obtain ⟨esz,h⟩:=Xch h
 obtain ⟨l,h,hl,hln,hvn,_⟩:=Xbw I.good.rel h H
 obtain ⟨cs,Ss,st1,g1,h,Is⟩:=Xde h I.good hl
 obtain ⟨hs,h⟩:=W2 h
 have hcl:cs.length=y.size:=by rw [Xrn Is,Array.length_toList];exact hvn
 obtain ⟨g',h1,h2,_⟩:=Is.good.block (e:=t) hs 1 (Is.hand.grid hcl) (by simp) (by simp;omega) (fun _=>rfl) (hT _ hy).pos
 have I1:Inv C ts w a st1 wr g1:=⟨Is.good,I.fr,I.can,I.dom,I.nodef⟩
 exact Zs (s:=Instr.box t (a.eval x)) (by simp only [execOp,ho])
  (by simp [Instr.box,newVar,newRow]) ((I1.alloc h1).put h (.ptr h2))
def Xh0:List Value→Nat→List Value→List Value
 | us,_,[]=>us
 | us,j,v::vs=>Xh0 (us.set j v) (j+1) vs
theorem Xkm {h:Heap}:∀ {vs:List Value} {cs:List AV} {us:List Value} {row:List AV} {j:Nat} {k:List AV→R} {res:Res},Xur row j cs k=some res→VRs w h g us row→VRs w h g vs cs →
 ∃ row',k row'=some res∧VRs w h g (Xh0 us j vs) row'∧(vs≠[]→j+vs.length≤us.length)∧row'.length=row.length
 | _,_,us,row,j,k,res,hh,H1,.nil=>⟨row,hh,H1,fun h=>absurd rfl h,rfl⟩
 | _,_,us,row,j,k,res,hh,H1,.cons (vs:=vs) h3 h4=>by
   simp only [Xur] at hh
   obtain ⟨hj,hh⟩:=Xhu hh
   obtain ⟨row',e1,e2,e3,e4⟩:=Xkm hh (VRs.set h3 H1) h4
   refine ⟨row',e1,e2,fun _=>?_,by simpa using e4⟩
   have:=H1.length
   cases vs with
   | nil=>simp;omega
   | cons=>have:=e3 (by simp);simp at this ⊢;omega
theorem Xfc (off:Nat):∀ (l:List Value) (i:Nat) (cs:Array Value),((l.zipIdx i).foldl (fun cs (x:Value×Nat)=>cs.setIfInBounds (off+x.2) x.1) cs).toList=Xh0 cs.toList (off+i) l
 | [],_,_=>rfl
 | v::l,i,cs=>by
   simp only [List.zipIdx_cons,List.foldl_cons,Xh0]
   rw [Xfc off l (i+1)]
   simp [Nat.add_assoc]
theorem Xh1:∀ (vs:List Value) (us:List Value) (j:Nat),(Xh0 us j vs).length=us.length
 | [],_,_=>rfl
 | v::vs,us,j=>by simp [Xh0,Xh1 vs]
end
end Go.Abs
namespace Go.Abs
section
variable {P:Program} {cfg:Cfg} {lv:Lev} {C:Ctx} {ts:List (List Value)} {w w':World} {a:Act} {st:St} {wr:Wrs} {g:Gh} {c:St→R} {res:Res} {o:Oper} {slot:Nat}
inductive PartsR (w:World) (h:Heap) (g:Gh):List (Nat×Value)→List (Nat×AV)→Prop
 | nil:PartsR w h g [] []
 | cons {i:Nat} {v:Value} {av:AV} {l:List (Nat×Value)} {m:List (Nat×AV)} (h1:VR w h g v av) (h2:PartsR w h g l m):PartsR w h g ((i,v)::l) ((i,av)::m)
theorem Xfd {h:Heap} {e:List AV} (H:VRs w h g a.tmps.toList e):∀ {l:List (Nat×Operand)} {k:List (Nat×AV)→R},Xq6 e l k=some res →
 ∃ m,k m=some res∧PartsR w h g (l.map fun x=>(x.1,a.eval x.2)) m
 | [],k,hh=>⟨[],hh,.nil⟩
 | (i,x)::l,k,hh=>by
   simp only [Xq6] at hh
   obtain ⟨av,hh,h1⟩:=Yd hh H
   obtain ⟨m,hh,h2⟩:=Xfd H hh
   exact ⟨_,hh,.cons h1 h2⟩
theorem Xro {fs:List Field} (h:∀ f∈fs,(P.info? f.type).isSome=true):∃ places,fs.mapM (fun f=>(P.info? f.type).map fun i=>(f.offset,i.size))=some places ∧
 ∀ (i:Nat) (f:Field),fs[i]?=some f→∃ ii,P.info? f.type=some ii∧places[i]?=some (f.offset,ii.size):=by
 induction fs with
 | nil=>exact ⟨[],rfl,fun i f h=>by simp at h⟩
 | cons f fs ih =>
   obtain ⟨places,h1,h2⟩:=ih (fun f hf=>h f (by simp [hf]))
   obtain ⟨ii,hi⟩:=Option.isSome_iff_exists.1 (h f (by simp))
   refine ⟨(f.offset,ii.size)::places,by simp [List.mapM_cons,hi,h1],fun i f' hf=>?_⟩
   cases i with
   | zero=>simp at hf;subst hf;exact ⟨ii,hi,by simp⟩
   | succ i=>simpa using h2 i f' (by simpa using hf)
theorem Xmf (hT:Z2 P cfg.ty) {h:Heap} (R1:Rel w wr h g) {fs:List (Nat×TypeId)} {places:Nat→Option (Nat×Nat)} (hp:∀ (i:Nat) (p:Nat×TypeId),fs[i]?=some p→∃ ii,P.info? p.2=some ii∧places i=some (p.1,ii.size)) :
 ∀ {l:List (Nat×Value)} {m:List (Nat×AV)} {cells:Array Value} {row:List AV} {k:List AV→R},Xd8 cfg fs m row k=some res→PartsR w h g l m→VRs w h g cells.toList row →
 ∃ cells' row',k row'=some res∧Instr.fill places cells l=some cells'∧VRs w h g cells'.toList row'
 | [],_,cells,row,k,hh,.nil,H=>⟨cells,row,hh,rfl,H⟩
 | (i,v)::l,(_,av)::m,cells,row,k,hh,.cons h1 h2,H=>by
   simp only [Xd8] at hh
   split at hh
   ·rename_i off t hf
    obtain ⟨x,hx,hh⟩:=Y1 hh
    split at hh
    ·cases hh
    rename_i hne0
    obtain ⟨cs,hh,hv,hcl,hvn,_⟩:=Xbw R1 hh h1
    obtain ⟨row',hh,hr,hlen,_⟩:=Xkm hh H hv
    obtain ⟨ii,hi,hpl⟩:=hp i _ hf
    obtain ⟨_,⟨ii',z,hi1,hi2,_⟩,_⟩:=hT _ hx
    simp only at hi hi1 hi2 hpl
    rw [hi] at hi1
    cases hi1
    have e1:(v.cells.zipIdx.foldl (fun cs (x:Value×Nat)=>cs.setIfInBounds (off+x.2) x.1) cells).toList=Xh0 cells.toList off v.cells.toList:=by
     rw [←Array.foldl_toList,Array.toList_zipIdx]
     simpa using Xfc off v.cells.toList 0 cells
    obtain ⟨cells',row'',k1,k2,k3⟩:=Xmf hT R1 hp hh h2 (cells:=v.cells.zipIdx.foldl (fun cs (x:Value×Nat)=>cs.setIfInBounds (off+x.2) x.1) cells) (by rw [e1];exact hr)
    refine ⟨cells',row'',k1,?_,k3⟩
    simp only [Instr.fill,hpl]
    have hb:¬(off+v.cells.size>cells.size):=by
     by_cases hne:v.cells.toList=[]
     ·have:v.cells.size=0:=by rw [←Array.length_toList,hne];rfl
      exact absurd (by omega) hne0
     ·have:=hlen hne
      simp at this
      omega
    rw [if_neg]
    ·exact k2
    ·simp only [ne_eq,Bool.or_eq_true,decide_eq_true_eq,not_or,Decidable.not_not]
     exact ⟨by omega,hb⟩
   ·cases hh
theorem Xwx {t:TypeId} {x:TInfo} (hx:TyOK P t x) {h:Heap} {z:Value} {ii:TypeInfo} (hi:P.info? t=some ii) (hz:ii.zero=some z):VRs w h g z.cells.toList x.zero:=by
 obtain ⟨i',z',h1,_,_,h4,h5,h6,h7⟩:=hx.zeros
 rw [hi] at h1
 cases h1
 rw [hz] at h4
 cases h4
 have key:∀ (l:List AV) (us:List Value),us.length=l.length→(∀ (j:Nat) (av:AV),l[j]?=some av→∃ u,us[j]?=some u∧zv av=some u)→VRs w h g us l:=by
  intro l
  induction l with
  | nil=>intro us hl _;cases us with
    | nil=>exact .nil
    | cons=>simp at hl
  | cons av l ih=>intro us hl hj;cases us with
    | nil=>simp at hl
    | cons u us =>
      refine .cons ?_ (ih us (by simpa using hl) (fun j av' ha=>by simpa using hj (j+1) av' (by simpa using ha)))
      obtain ⟨u',e1,e2⟩:=hj 0 av rfl
      simp at e1
      subst e1
      obtain ⟨k1,_⟩:=Xjm e2 w (fun _ _=>True) (fun _=>True)
      cases av <;> simp only [zv] at e2 <;> try (cases e2;done)
      all_goals first
       | (simp only [Option.some.injEq] at e2;subst e2;constructor;done)
       | (split at e2
          ·simp only [Option.some.injEq] at e2;subst e2;exact .lst
          ·cases e2)
 refine key _ _ (by rw [Array.length_toList,h5,h6]) (fun j av ha=>⟨z.cells.getD j default,?_,h7 j av ha⟩)
 have:j<z.cells.size:=by rw [h5,←h6];exact (List.getElem?_eq_some_iff.1 ha).1
 rw [Array.getElem?_toList]
 simp [Array.getD_eq_getD_getElem?,this]
theorem Xy2 (hT:Z2 P cfg.ty) {t:TypeId} {ps:Array (Nat×Operand)} {Q:Exit→Act→World→Prop} (ho:o.op=.build t ps) (h:evOp cfg lv slot o st c=some res) (I:Inv C ts w a st wr g):o.wp P a w (Post C ts c res) Q:=by
 simp only [evOp,ho] at h
 obtain ⟨x,hx,h⟩:=Y1 h
 split at h
 ·rename_i fs hs
  obtain ⟨m,h,hm⟩:=Xfd I.good.env h
  have hxt:=hT _ hx
  obtain ⟨⟨d,hd,hsh⟩,⟨ii,z,hi1,hi2,_,hi4,_⟩,_,_,hfl,_⟩:=hT _ hx
  simp only at hd hsh hi1 hfl hs
  rw [hs] at hsh
  obtain ⟨fa,rfl,hfa⟩:=hsh
  have hinfo:∀ f∈fa.toList,(P.info? f.type).isSome=true:=fun f hf=>hfl fs hs (f.offset,f.type) (by rw [←hfa];exact List.mem_map.2 ⟨f,hf,rfl⟩)
  obtain ⟨places,hp1,hp2⟩:=Xro hinfo
  have hpl:∀ (i:Nat) (p:Nat×TypeId),fs[i]?=some p→∃ ii,P.info? p.2=some ii∧(fun x=>places[x]?) i=some (p.1,ii.size):=by
   intro i p hp
   rw [←hfa,List.getElem?_map,Option.map_eq_some_iff] at hp
   obtain ⟨f,hf,rfl⟩:=hp
   exact hp2 i f hf
  obtain ⟨cells,row,h,hfill,hrow⟩:=Xmf hT I.good.rel hpl h hm (Xwx hxt hi1 hi4)
  have hb:P.built t (ps.map fun (i,x)=>(i,a.eval x)).toList=some cells:=by
   have e1:(ps.map fun (i,x)=>(i,a.eval x)).toList=ps.toList.map fun x=>(x.1,a.eval x.2):=by simp
   rw [e1]
   simp only [Program.built,hi1,hd,hi4,hp1]
   simpa using hfill
  refine Zs (s:=Instr.build t (ps.map fun (i,x)=>(i,a.eval x))) (v:=.agg cells) (w':=w) (by simp only [execOp,ho]) (run_build w t _ _ hb) (I.put h ?_)
  have:=VR.agg hrow
  rwa [Array.toArray_toList] at this
 ·cases h
end
end Go.Abs
namespace Go.Abs
section
variable {P:Program} {cfg:Cfg} {lv:Lev} {C:Ctx} {ts:List (List Value)} {w w':World} {a:Act} {st:St} {wr:Wrs} {g:Gh} {res:Res} {slot:Nat}
def X3k (C:Ctx) (ts:List (List Value)) (c:Exit→St→R) (res:Res):Exit→Act→World→Prop:=fun e a w=>∃ st,c e st=some res∧InvE C ts w a st
def Xgv (P:Program) (E:Env) (cfg:Cfg) (lv:Lev):Prop:=∀ (C:Ctx) (_:C.E=E) (ts:List (List Value)) (o:Oper) (slot:Nat) (st:St) (c:St→R) (res:Res) (a:Act) (w:World) (Q:Exit→Act→World→Prop),
 evOp cfg lv slot o st c=some res→InvE C ts w a st→o.wp P a w (Post C ts c res) Q
theorem Xwy {o:Oper} {n1 n2:Act→World→Prop} {Q:Exit→Act→World→Prop} (h:∀ a w,n1 a w→n2 a w) {r:Result Next} (hr:o.upon P a n1 Q r):o.upon P a n2 Q r:=by
 cases r with
 | ok x w' =>
   cases x <;> simp only [Oper.upon] at hr ⊢ <;> try exact h _ _ hr
   case enter =>
    refine hr.mono fun e w'' he=>?_
    cases e with
    | returned v=>exact h _ _ he
    | panicked=>exact he
    | outgrown=>exact he
   case row=>exact hr.mono fun v w'' he=>h _ _ he
   all_goals exact hr
 | halt x w'=>cases x <;> simp only [Oper.upon] at hr ⊢ <;> exact hr
theorem X1c {o:Oper} {n1 n2:Act→World→Prop} {Q:Exit→Act→World→Prop} (h:∀ a w,n1 a w→n2 a w) (hw:o.wp P a w n1 Q):o.wp P a w n2 Q:=Xwy h hw
theorem Inv.skip {d:Option Tmp} {c:St→R} (I:Inv C ts w a st wr g) (h:putD st d (.tup []) c=some res):Post C ts c res (a.put d Go.undef) w:=I.put h .unit
theorem Xfe {all:Array Oper} {o:Oper} {run skip:R} (I:Inv C ts w a st wr g) (h:Xbf all.toList o.guard st run skip=some res) :
 (Region.wanted o (yielded all a.tmps)=true∧run=some res)∨(Region.wanted o (yielded all a.tmps)=false∧skip=some res):=by
 unfold Xbf at h
 split at h
 ·rename_i hg
  exact .inl ⟨by simp [Region.wanted,hg],h⟩
 ·rename_i j want hg
  split at h
  ·rename_i oj hj
   split at h
   ·rename_i d hd
    obtain ⟨av,h1,h⟩:=Uq h
    obtain ⟨v,h2,h3⟩:=I.good.env.get h1
    have hy:∀ x,yielded all a.tmps j=x→Region.wanted o (yielded all a.tmps)=(x==some want):=by
     intro x hx
     simp only [Region.wanted,hg,hx]
    have hlook:((all[j]?).bind (·.dst)).bind (a.tmps[·]?)=some v:=by
     have e1:all[j]?=some oj:=by rw [←Array.getElem?_toList];exact hj
     have e2:a.tmps[d]?=some v:=by rw [←Array.getElem?_toList];exact h2
     simp [e1,hd,e2]
    split at h
    ·cases h3
     rename_i t
     have:=hy (some t) (by simp [yielded,hlook])
     split at h
     ·rcases Z7 h with ⟨ht,h'⟩ | ⟨ht,h'⟩
      ·exact .inl ⟨by rw [this,ht];rfl,h'⟩
      ·exact .inr ⟨by rw [this,ht];rfl,h'⟩
     ·rcases Z7 h with ⟨ht,h'⟩ | ⟨ht,h'⟩
      ·exact .inr ⟨by rw [this,ht];rfl,h'⟩
      ·exact .inl ⟨by rw [this,ht];rfl,h'⟩
    ·cases h3 with
     | tup h4 =>
       have:=hy none (by simp [yielded,hlook])
       exact .inr ⟨by rw [this];rfl,h⟩
    ·cases h
   ·cases h
  ·cases h
theorem Xrp {E:Env} (hE:C.E=E) (hO:Xgv P E cfg lv) {all:Array Oper} {Q:Exit→Act→World→Prop} {c:St→R} (hQ:∀ a w,Post C ts c res a w→Q .normal a w) :
 ∀ (n:Nat) (i:Nat) (st:St) (a:Act) (w:World),all.size - i=n→Xgs cfg lv all.toList (all.toList.drop i) st c=some res→InvE C ts w a st→wpOps P all Q ((List.range all.size).drop i) a w:=by
 intro n
 induction n with
 | zero =>
   intro i st a w hn h I
   have e1:all.toList.drop i=[]:=List.drop_eq_nil_of_le (by rw [Array.length_toList];omega)
   have e2:(List.range all.size).drop i=[]:=List.drop_eq_nil_of_le (by simp;omega)
   rw [e1,V1] at h
   rw [e2]
   exact hQ a w ⟨st,h,I⟩
 | succ n ih =>
   intro i st a w hn h I
   have hi:i<all.size:=by omega
   have e1:all.toList.drop i=all[i]::all.toList.drop (i+1):=by
    rw [List.drop_eq_getElem_cons (by simpa using hi)]
    simp
   have e2:(List.range all.size).drop i=i::(List.range all.size).drop (i+1):=by
    rw [List.drop_eq_getElem_cons (by simpa using hi)]
    simp
   rw [e1] at h
   rw [e2]
   rw [Vb] at h
   obtain ⟨wr,g,I0⟩:=I
   have hnext:∀ a w,Post C ts (fun st=>Xgs cfg lv all.toList (all.toList.drop (i+1)) st c) res a w→wpOps P all Q ((List.range all.size).drop (i+1)) a w:=fun a w ⟨st',h1,h2⟩=>ih (i+1) st' a w (by omega) h1 h2
   have ho:all[i]?=some all[i]:=Array.getElem?_eq_getElem hi
   simp only [wpOps,ho]
   rcases Xfe I0 h with ⟨hw,h⟩ | ⟨hw,h⟩
   ·rw [if_pos hw]
    have h:=Xhv h
    exact .inl (X1c hnext (hO C hE ts _ _ st _ res a w Q h ⟨wr,g,I0⟩))
   ·rw [if_neg (by rw [hw];simp)]
    exact hnext _ _ (I0.skip h)
end
end Go.Abs
namespace Go.Abs
section
variable {P:Program} {cfg:Cfg} {lv:Lev} {C:Ctx} {ts:List (List Value)} {w w':World} {a:Act} {st:St} {wr:Wrs} {g:Gh} {res:Res} {slot:Nat}
theorem Xy3 {p:Nat→Prop} (h:∃ n,p n):∃ n,p n∧∀ m,p m→n≤m:=by
 classical
 obtain ⟨n,hn⟩:=h
 induction n using Nat.strongRecOn with
 | _ n ih =>
   by_cases hx:∃ m,m<n∧p m
   ·obtain ⟨m,hm,hp⟩:=hx
    exact ih m hm hp
   ·exact ⟨n,hn,fun m hm=>Nat.le_of_not_lt fun hlt=>hx ⟨m,hlt,hm⟩⟩
noncomputable def Xqb {p:Nat→Prop} (h:∃ n,p n):Nat:=Classical.choose (Xy3 h)
theorem Xrq {p:Nat→Prop} (h:∃ n,p n):p (Xqb h):=(Classical.choose_spec (Xy3 h)).1
theorem Xwz {p:Nat→Prop} (h:∃ n,p n) {m:Nat} (hm:p m):Xqb h≤m:=(Classical.choose_spec (Xy3 h)).2 m hm
def X3u (P:Program) (E:Env) (draw:Nat→List Oper→St→(St→R)→R) (id:Nat) (all:Array Oper):Prop:=∀ (C:Ctx) (_:C.E=E) (ts:List (List Value)) (st:St) (c:St→R) (res:Res) (a:Act) (w:World) (Q:Exit→Act→World→Prop),
 draw id all.toList st c=some res→InvE C ts w a st→(∀ a w,Post C ts c res a w→Q .normal a w)→∀ t,wpOps P all Q (Region.schedule (P.follows .mixedOrders) all t) a {w with drawn:=w.drawn+1}
def Xbx (P:Program) (E:Env) (draw:Nat→List Oper→St→(St→R)→R):Code→Prop
 | .region id ops d=>d=true→X3u P E draw id ops
 | .seq a b=>Xbx P E draw a∧Xbx P E draw b
 | .cond _ a b=>Xbx P E draw a∧Xbx P E draw b
 | .block _ a=>Xbx P E draw a
 | .loop a=>Xbx P E draw a
 | _=>True
def Xvm:Prop:=∀ (C:Ctx) (ts:List (List Value)) (n:Nat) (live:List Nat) (st:St) (k:St→R) (res:Res) (a:Act) (w:World),Xhs n live st k=some res→InvE C ts w a st→∃ st',k st'=some res∧InvE C ts w a st'
theorem Xy4 {E:Env} (hE:C.E=E) (hO:Xgv P E cfg lv) {draw:Nat→List Oper→St→(St→R)→R} (hC:Xvm) {f:FuncId} :
 ∀ (code:Code) (_:Xbx P E draw code) (st:St) (c:Exit→St→R) (res:Res) (a:Act) (w:World),ev cfg lv draw f code st c=some res→InvE C ts w a st→code.wp P (X3k C ts c res) a w:=by
 intro code
 induction code with
 | skip=>intro hD st c res a w h I;rw [Qv] at h;exact wp_skip ⟨st,h,I⟩
 | label l=>intro hD st c res a w h I;rw [Xca] at h;exact wp_label ⟨st,h,I⟩
 | region id ops d =>
   intro hD st c res a w h I
   cases d with
   | false =>
     rw [V2,Xlw] at h
     have:=Xrp (all:=ops) (c:=c .normal) (Q:=X3k C ts c res) hE hO (fun a w h=>h) _ 0 st a w rfl (by simpa using h) I
     exact wp_region (by simpa using this)
   | true =>
     rw [Qw] at h
     exact wp_region_draw (hD rfl C hE ts st (c .normal) res a w _ h I (fun a w h=>h))
 | seq x y ihx ihy =>
   intro hD st c res a w h I
   rw [Xcb] at h
   refine wp_seq (wp_mono (ihx hD.1 st _ res a w h I) fun e a' w' hp=>?_)
   obtain ⟨st',h1,h2⟩:=hp
   cases e with
   | normal=>exact ihy hD.2 st' c res a' w' h1 h2
   | exit id=>exact ⟨st',h1,h2⟩
   | goto l=>exact ⟨st',h1,h2⟩
   | ret=>exact ⟨st',h1,h2⟩
   | panic ch=>exact ⟨st',h1,h2⟩
   | outgrown=>exact ⟨st',h1,h2⟩
 | cond x p q ihp ihq =>
   intro hD st c res a w h I
   rw [Qx] at h
   obtain ⟨wr,g,I0⟩:=I
   obtain ⟨av,h,H⟩:=Yd h I0.good.env
   split at h
   ·rename_i t _
    generalize hx:a.eval x=vx at H
    cases H
    rcases Z7 h with ⟨ht,h'⟩ | ⟨ht,h'⟩
    ·exact wp_cond_true (by rw [hx,ht]) (ihp hD.1 st c res a w h' ⟨wr,g,I0⟩)
    ·exact wp_cond_false (by rw [hx,ht]) (ihq hD.2 st c res a w h' ⟨wr,g,I0⟩)
   ·cases h
 | block id b ih =>
   intro hD st c res a w h I
   rw [Up] at h
   refine wp_block (wp_mono (ih hD st _ res a w h I) fun e a' w' hp=>?_)
   obtain ⟨st',h1,h2⟩:=hp
   cases e with
   | normal=>exact ⟨st',h1,h2⟩
   | exit id' =>
     simp only at h1
     simp only [Exit.inBlock]
     split
     ·rename_i e
      rw [if_pos e] at h1
      exact ⟨st',h1,h2⟩
     ·rename_i e
      rw [if_neg e] at h1
      exact ⟨st',h1,h2⟩
   | goto l=>exact ⟨st',h1,h2⟩
   | ret=>exact ⟨st',h1,h2⟩
   | panic ch=>exact ⟨st',h1,h2⟩
   | outgrown=>exact ⟨st',h1,h2⟩
 | loop b ih =>
   intro hD st c res a w h I
   rw [Qy] at h
   have h:=Xhv h
   obtain ⟨n,hn⟩:∃ n,n=st.heap.length:=⟨_,rfl⟩
   obtain ⟨live,hlive⟩:∃ live,live=cfg.live f (Xe4 b):=⟨_,rfl⟩
   rw [←hn,←hlive] at h
   obtain ⟨st0,h,I⟩:=hC _ _ _ _ _ _ _ _ _ h I
   obtain ⟨fuel,hf⟩:∃ fuel,fuel=cfg.fuel:=⟨_,rfl⟩
   rw [←hf] at h
   have hI:∃ k st,Ud n live (ev cfg lv draw f b) k st c=some res∧InvE C ts w a st:=⟨fuel,st0,h,I⟩
   classical
   refine wp_loop (fun a w=>∃ k st,Ud n live (ev cfg lv draw f b) k st c=some res∧InvE C ts w a st)
    (fun a w=>if h:∃ k st,Ud n live (ev cfg lv draw f b) k st c=some res∧InvE C ts w a st then Xqb h else 0) hI ?_
   intro a w hI
   rw [dif_pos hI]
   obtain ⟨st1,h1,I1⟩:=Xrq hI
   obtain ⟨k,hk⟩:∃ k,k=Xqb hI:=⟨_,rfl⟩
   rw [←hk] at h1 ⊢
   cases k with
   | zero=>simp [Xq8] at h1
   | succ k =>
     simp only [Xcy] at h1
     refine wp_mono (ih hD st1 _ res a w h1 I1) fun e a' w' hp=>?_
     obtain ⟨st',h1,h2⟩:=hp
     cases e with
     | normal =>
       obtain ⟨st'',h3,h4⟩:=hC _ _ _ _ _ _ _ _ _ h1 h2
       have hI':∃ k st,Ud n live (ev cfg lv draw f b) k st c=some res∧InvE C ts w' a' st:=⟨k,st'',h3,h4⟩
       refine ⟨hI',?_⟩
       rw [dif_pos hI']
       exact Nat.lt_succ_of_le (Xwz hI' ⟨st'',h3,h4⟩)
     | exit id=>exact ⟨st',h1,h2⟩
     | goto l=>exact ⟨st',h1,h2⟩
     | ret=>exact ⟨st',h1,h2⟩
     | panic ch=>exact ⟨st',h1,h2⟩
     | outgrown=>exact ⟨st',h1,h2⟩
 | exit id=>intro hD st c res a w h I;rw [Qz] at h;exact wp_exit ⟨st,h,I⟩
 | ret=>intro hD st c res a w h I;rw [Xcc] at h;exact wp_ret ⟨st,h,I⟩
 | _=>intro hD st c res a w h I;simp [Xca,ev0] at h
end
end Go.Abs
namespace Go.Abs
abbrev Below (n:Nat):Nat→Path→Prop:=fun r _=>r<n
theorem Xoi {live:List Nat} {res:Res}:∀ {l:List AV} {i:Nat} {k:List AV→R},Xu4 live i l k=some res→∃ l',k l'=some res∧∀ w h g vs,VRs w h g vs l→VRs w h g vs l'
 | [],_,k,hh=>⟨[],hh,fun _ _ _ _ h=>h⟩
 | v::l,i,k,hh=>by
   simp only [Xu4] at hh
   obtain ⟨l',hh,h1⟩:=Xoi hh
   split at hh
   ·exact ⟨_,hh,fun w h g vs H=>by cases H with | cons h2 h3=>exact .cons h2 (h1 _ _ _ _ h3)⟩
   ·exact ⟨_,hh,fun w h g vs H=>by cases H with | cons h2 h3=>exact .cons (.undef _) (h1 _ _ _ _ h3)⟩
theorem Xrr {n:Nat} {a:AV} (h:ok0 n a=true):Refs (Below n) a:=by
 cases a <;> simp only [ok0,decide_eq_true_eq] at h <;> first | exact h | trivial | (cases h)
theorem Xjo {n:Nat}:∀ {l:List AV},okL0 n l=true→Vo (Below n) l
 | [],_=>trivial
 | a::l,h=>by
   simp only [okL0] at h
   split at h
   ·rename_i h0;exact ⟨Xrr h0,Xjo h⟩
   ·cases h
theorem Xrs {n:Nat} {a:AV} (h:ok1 n a=true):Refs (Below n) a:=by
 cases a with
 | agg cs=>simp only [ok1] at h;exact Xjo h
 | fn f cs=>simp only [ok1] at h;exact Xjo h
 | _=>exact Xrr h
theorem Xjp {n:Nat}:∀ {l:List AV},okL1 n l=true→Vo (Below n) l
 | [],_=>trivial
 | a::l,h=>by
   simp only [okL1] at h
   split at h
   ·rename_i h0;exact ⟨Xrs h0,Xjp h⟩
   ·cases h
theorem Xy5 {n:Nat} {a:AV} (h:ok2 n a=true):Refs (Below n) a:=by
 cases a with
 | tup cs=>simp only [ok2] at h;exact Xjp h
 | _=>exact Xrs h
theorem Xjq {n:Nat}:∀ {l:List AV},okL2 n l=true→Vo (Below n) l
 | [],_=>trivial
 | a::l,h=>by
   simp only [okL2] at h
   split at h
   ·rename_i h0;exact ⟨Xy5 h0,Xjq h⟩
   ·cases h
theorem Xmg {n:Nat}:∀ {l:List (List AV)},Xu5 n l=true→∀ e∈l,Vo (Below n) e
 | [],_,e,he=>by simp at he
 | a::l,h,e,he=>by
   simp only [Xu5] at h
   split at h
   ·rename_i h0
    rcases List.mem_cons.1 he with rfl | he
    ·exact Xjq h0
    ·exact Xmg h e he
   ·cases h
theorem Xkn {n:Nat}:∀ {l:Rows},Xps n l=true→∀ e∈l,Vo (Below n) e
 | [],_,e,he=>by simp at he
 | a::l,h,e,he=>by
   simp only [Xps] at h
   split at h
   ·rename_i h0
    rcases List.mem_cons.1 he with rfl | he
    ·exact Xjp h0
    ·exact Xkn h e he
   ·cases h
theorem Xoj {P:Nat→Path→Prop}:∀ {l:List AV},Vo P l→∀ a∈l,Refs P a
 | [],_,a,ha=>by simp at ha
 | b::l,h,a,ha=>by
   rcases List.mem_cons.1 ha with rfl | ha
   ·exact h.1
   ·exact Xoj h.2 a ha
theorem Xok {n0:Nat} {res:Res}:∀ {n:Nat} {h:Heap} {k:Heap→R},Xhr n0 n h k=some res→∃ h',k h'=some res∧(∀ r,h'[r]?.join=if r<n then h[r]?.join else none) ∧
 ∀ (r:Nat) (x:Root),r<n→h[r]?.join=some x→x.box=true→∀ row∈x.rows,Vo (Below n0) row
 | 0,_,k,hh=>⟨[],by simpa [Xhr] using hh,fun r=>by simp,fun r x hr=>by omega⟩
 | n+1,[],k,hh=>by simp [Xhr] at hh
 | n+1,b::h,k,hh=>by
   have fin:∀ (b:Option Root),(∀ x,b=some x→x.box=true→∀ row∈x.rows,Vo (Below n0) row)→Xhr n0 n h (fun h=>k (b::h))=some res →
    ∃ h',k h'=some res∧(∀ r,h'[r]?.join=if r<n+1 then (b::h)[r]?.join else none)∧∀ (r:Nat) (x:Root),r<n+1→(b::h)[r]?.join=some x→x.box=true→∀ row∈x.rows,Vo (Below n0) row:=by
    intro b hb hh
    obtain ⟨h',h1,h2,h3⟩:=Xok hh
    refine ⟨b::h',h1,fun r=>?_,fun r x hr hx=>?_⟩
    ·cases r with
     | zero=>simp
     | succ r=>simp only [List.getElem?_cons_succ,h2 r];simp
    ·cases r with
     | zero=>exact hb x (by simpa using hx)
     | succ r=>exact h3 r x (by omega) (by simpa using hx)
   simp only [Xhr] at hh
   cases b with
   | none=>exact fin none (fun x hx=>by cases hx) hh
   | some x =>
     obtain ⟨ro,virt,box,sz,rows⟩:=x
     simp only at hh
     cases box with
     | true =>
       simp only at hh
       split at hh
       ·rename_i hok
        exact fin _ (fun x hx _ row hr=>by cases hx;exact Xkn hok row hr) hh
       ·cases hh
     | false=>exact fin _ (fun x hx hb=>by cases hx;cases hb) hh
theorem Xy6:Xvm:=by
 intro C ts n live st k res a w h I
 obtain ⟨wr,g,I⟩:=I
 unfold Xhs at h
 obtain ⟨e,h,he⟩:=Xoi h
 split at h
 ·rename_i h1
  split at h
  ·rename_i h2
   obtain ⟨h',h,h3,h4⟩:=Xok h
   have henv:=Xjq h1
   have hstk:=Xmg h2
   have look:∀ r,r<n→h'[r]?.join=st.heap[r]?.join:=fun r hr=>by rw [h3,if_pos hr]
   have keeps:Vf (Below n) w st.heap g w h' g:=fun r p v sz rows hr hq=>⟨rows,(Qh (look r hr) p).trans hq,rfl⟩
   have hin:∀ r x,h'[r]?.join=some x→r<n∧st.heap[r]?.join=some x:=by
    intro r x hx
    rw [h3] at hx
    split at hx
    ·rename_i hr;exact ⟨hr,hx⟩
    ·cases hx
   have rel:Rel w wr h' g:=by
    refine ⟨fun r x hx=>?_,fun r x r' x' k hx hx'=>?_,fun r x k hx=>?_⟩
    ·obtain ⟨hr,hx⟩:=hin r x hx
     have hR:=I.good.rel.root r x hx
     unfold Zu at hR ⊢
     split
     ·rename_i hv;simp only [hv] at hR;exact hR
     ·rename_i hv
      simp only [hv] at hR
      split
      ·rename_i hb
       simp only [hb] at hR
       obtain ⟨b,o,cs,e0,fz,f,k1,k2,k3,k4,k5,k6,k7,k8,k9⟩:=hR
       refine ⟨b,o,cs,e0,fz,f,k1,k2,k3,k4,k5,k6,k7,k8,fun i j row av hrow hav=>?_⟩
       have hc:=k9 i j row av hrow hav
       unfold Ut at hc ⊢
       split
       ·rename_i hX
        simp only [hX] at hc
        exact VR.keep keeps hc (Xoj (h4 r x hr hx hb row (mem_get hrow)) av (mem_get hav))
       ·rename_i hX
        simp only [hX] at hc
        exact hc
      ·rename_i hb
       simp only [hb] at hR
       exact hR
    ·exact I.good.rel.sep r x r' x' k (hin r x hx).2 (hin r' x' hx').2
    ·exact I.good.rel.low r x k (hin r x hx).2
   exact ⟨_,h,wr,g,⟨rel,VRs.keep keeps (he _ _ _ _ I.good.env) henv,StkR.keep keeps I.good.stk hstk⟩,I.fr,I.can,I.dom,I.nodef⟩
  ·cases h
 ·cases h
end Go.Abs
namespace Go.Abs
section
variable {P:Program} {cfg:Cfg} {lv:Lev} {C:Ctx} {ts:List (List Value)} {w w':World} {a:Act} {st:St} {wr:Wrs} {g:Gh} {c:St→R} {res:Res} {o:Oper} {slot:Nat}
theorem Xy7 {sz i j:Nat} (hj:j<sz):(i*sz+j) % sz=j:=by
 rw [Nat.add_comm,Nat.add_mul_mod_self_right]
 exact Nat.mod_eq_of_lt hj
theorem Xol {t:TypeId} {x:TInfo} (hx:TyOK P t x) {h:Heap} {z:Value} {ii:TypeInfo} (hi:P.info? t=some ii) (hz:ii.zero=some z) (n m:Nat) (hn:n≤m) (ex:Bool) :
 Grid w wr h g ex x.size (List.replicate n x.zero) ((Array.range (m*x.size)).map (z.cells[· % z.cells.size]!)) (fun _ _ _=>False):=by
 obtain ⟨i',z',h1,_,_,h4,h5,h6,h7⟩:=hx.zeros
 rw [hi] at h1
 cases h1
 rw [hz] at h4
 cases h4
 refine ⟨fun row hr=>by rw [List.eq_of_mem_replicate hr];exact h6,fun i j row av hr ha=>?_,fun _ _ _ h=>h.elim,fun _ _ _ _ _ h=>h.elim⟩
 have hi':i<n:=by have:=(List.getElem?_eq_some_iff.1 hr).1;simpa using this
 have hrow:row=x.zero:=List.eq_of_mem_replicate (mem_get hr)
 subst hrow
 have hj:j<x.size:=by rw [←h6];exact (List.getElem?_eq_some_iff.1 ha).1
 have hlt:i*x.size+j<m*x.size:=by
  have:(i+1)*x.size≤m*x.size:=Nat.mul_le_mul_right _ (by omega)
  rw [Nat.succ_mul] at this
  omega
 have e1:((Array.range (m*x.size)).map (z.cells[· % z.cells.size]!)).getD (i*x.size+j) default=z.cells.getD j default:=by
  have hj':j<z.cells.size:=by omega
  simp only [Array.getD_eq_getD_getElem?,Array.getElem?_map,Array.getElem?_range,hlt,if_true,Option.map_some,Option.getD_some,h5,Xy7 hj]
  simp [hj']
 rw [e1]
 obtain ⟨k1,k2⟩:=Xjm (h7 j av ha) w (Kr w wr false) (fun _=>False)
 exact ⟨fun _=>k1,fun h=>by rw [k2] at h;cases h⟩
theorem Xqc (hT:Z2 P cfg.ty) {t:TypeId} {x y:Operand} {Q:Exit→Act→World→Prop} (ho:o.op=.makeSlice t x y) (h:evOp cfg lv slot o st c=some res) (I:Inv C ts w a st wr g):o.wp P a w (Post C ts c res) Q:=by
 simp only [evOp,ho] at h
 obtain ⟨ti,hti,h⟩:=Y1 h
 obtain ⟨d,hd,hsh⟩:=(hT _ hti).run (w:=w)
 simp only at hd hsh
 split at h
 ·rename_i e hs
  rw [hs] at hsh
  simp only [ShOK] at hsh
  subst hsh
  obtain ⟨tj,htj,h⟩:=Y1 h
  split at h
  ·cases h
  ·rename_i hb0
   obtain ⟨ax,h,Hx⟩:=Yd h I.good.env
   obtain ⟨ay,h,Hy⟩:=Yd h I.good.env
   split at h
   ·rename_i kd n kd' m _
    generalize hx:a.eval x=vx at Hx
    generalize hy:a.eval y=vy at Hy
    cases Hx
    cases Hy
    rcases Z7 h with ⟨h0,h⟩ | ⟨_,h⟩
    ·rcases Z7 h with ⟨h1,h⟩ | ⟨_,h⟩
     ·rcases Z7 h with ⟨h2,h⟩ | ⟨_,h⟩
      ·simp only [decide_eq_true_eq] at h0 h1 h2
       obtain ⟨hsl,h⟩:=W2 h
       obtain ⟨ii,z,hi1,hi2,hi3,hi4,hzc,_,_⟩:=(hT _ htj).zeros
       simp only at hi1 hi2 hi3 hzc
       have hm:m.toNat≤Yf:=by
        have hb1:tj.bytes≠0:=fun e=>hb0 e
        have:m.toNat*1≤m.toNat*tj.bytes:=Nat.mul_le_mul_left _ (by omega)
        omega
       have hmi:m<9223372036854775808:=by unfold Yf at hm;omega
       have D:=Xol (w:=w) (wr:=wr) (g:=g) (hT _ htj) (h:=st.heap) hi1 hi4 n.toNat m.toNat (by omega) false
       obtain ⟨g',k1,k2,_⟩:=I.good.block (e:=e) hsl m.toNat D (by simp;omega) (by simp) (fun h=>by cases h) (hT _ htj).pos
       simp only [List.length_replicate] at k2
       refine Zs (s:=Instr.makeSlice t (a.eval x) (a.eval y)) (v:=.slice (some ⟨w.heap.size,0,none⟩) n.toNat m.toNat) (by simp only [execOp,ho]) ?_ ((I.alloc k1).put h (.ref k2))
       have w1:=wrap_small n h0 (by omega)
       have w2:=wrap_small m (by omega) hmi
       have hbytes:¬((tj.bytes:Int)*m>2 ^ 48):=by
        have e1:((m.toNat*tj.bytes:Nat):Int)=m*tj.bytes:=by rw [Int.natCast_mul,Int.toNat_of_nonneg (by omega)]
        have e2:(tj.bytes:Int)*m=m*tj.bytes:=Int.mul_comm _ _
        unfold Yf at h2
        omega
       have hcells:((Array.range (m.toNat*ii.size)).map ((if m.toNat*ii.size=0 then (#[]:Array Value) else z.cells)[· % (if m.toNat*ii.size=0 then (#[]:Array Value) else z.cells).size]!))=(Array.range (m.toNat*tj.size)).map (z.cells[· % z.cells.size]!):=by
        rw [hi2]
        by_cases h0:m.toNat*tj.size=0
        ·simp [h0]
        ·simp [h0]
       rw [hx,hy]
       have hl0:¬(n<0):=by omega
       have hm0:¬(m<0):=by omega
       have hlm:¬(n>m):=by omega
       have hti':(typeInfo e).run P w=.ok ii w:=by simp [typeInfo,hi1]
       have hsz':(sizeOf e).run P w=.ok ii.size w:=by simp [sizeOf,typeInfo,hi1]
       rw [←hi3] at hbytes
       have hfin:∀ zz:Array Value,zz=(if m.toNat*ii.size=0 then (#[]:Array Value) else z.cells)→(newRow e ((Array.range (m.toNat*ii.size)).map (zz[· % zz.size]!))).run P w=.ok ⟨w.heap.size,0,none⟩ (w.alloc (.cells ((Array.range (m.toNat*tj.size)).map (z.cells[· % z.cells.size]!)) e (0,0))):=by
        intro zz hzz
        subst hzz
        rw [hcells]
        simp [newRow]
       simp only [Instr.makeSlice,Sem.run_bind,hd,Result.andThen_ok,asInt,asIntOf,Sem.run_pure,hti',w1,w2]
       rw [if_neg (by simp;omega)]
       simp only [Sem.run_bind,run_askRoom,Result.andThen_ok,hsz']
       have hzv:(zeroValue e).run P w=.ok z w:=by simp [zeroValue,typeInfo,hi1,hi4]
       split
       ·rename_i h0'
        simp only [Sem.run_bind,Sem.run_pure,Result.andThen_ok,hfin #[] (by rw [if_pos h0'])]
       ·rename_i h0'
        simp only [Sem.run_bind,Sem.run_pure,Result.andThen_ok,hzv,hfin z.cells (by rw [if_neg h0'])]
      ·cases h
     ·cases h
    ·cases h
   ·cases h
 ·cases h
end
end Go.Abs
namespace Go.Abs
section
variable {P:Program} {cfg:Cfg} {lv:Lev} {C:Ctx} {ts:List (List Value)} {w w':World} {a:Act} {st:St} {wr:Wrs} {g:Gh} {res:Res} {slot:Nat}
theorem Xrt {hp:Heap} (RL:Rel w wr hp g) {v:Value} {av:AV} {k:Nat→R} (h:Xe2 hp av k=some res) (H:VR w hp g v av):∃ n,k n=some res ∧
 ((∃ a c,v=.slice a n c)∨(∃ s,v=.string s∧n=s.size)):=by
 cases H <;> simp only [Xe2] at h <;> try (cases h;done)
 ·exact ⟨_,h,.inr ⟨_,rfl,rfl⟩⟩
 ·exact ⟨0,h,.inl ⟨_,_,rfl⟩⟩
 ·rename_i r p sz rows h1
  obtain ⟨x,sz',rows',hres,h⟩:=Ul h
  obtain ⟨x',hx',hr',_⟩:=Yr h1
  simp only [Abs.res,hx',hr',Option.some.injEq,Prod.mk.injEq] at hres
  obtain ⟨_,rfl,rfl⟩:=hres
  obtain ⟨aa,n,c,rfl,hn⟩:=RL.slice_of h1
  exact ⟨_,h,.inl ⟨aa,c,by rw [hn]⟩⟩
 ·rename_i r p off len sz rows v0 h1 hl h2
  obtain ⟨aa,c,rfl⟩:=h2.one
  exact ⟨_,h,.inl ⟨_,_,rfl⟩⟩
 ·exact ⟨0,h,.inl ⟨_,_,rfl⟩⟩
def BOut (P:Program) (C:Ctx) (ts:List (List Value)) (w:World) (a:Act) (b:Builtin) (tys:Array TypeId) (vals:Array Value) (k:AV→St→R) (res:Res):Prop :=
 ∀ (ty:TypeId) (consts:Array Bool),∃ (s:Sem Value) (v:Value) (av:AV) (w':World) (st':St) (wr':Wrs) (g':Gh),builtin b tys ty consts vals=(do pure (.value (←s)))∧s.run P w=.ok v w'∧Inv C ts w' a st' wr' g'∧VR w' st'.heap g' v av∧k av st'=some res
theorem X52 (hT:Z2 P cfg.ty) {tys:Array TypeId} {vals:List Value} {vs:List AV} {k:AV→St→R} (h:Wn cfg slot .len tys.toList vs st k=some res) (I:Inv C ts w a st wr g) (H:VRs w st.heap g vals vs) :
 BOut P C ts w a .len tys vals.toArray k res:=by
 intro ty consts
 unfold Wn at h
 split at h
 ·cases H with
  | cons H1 H2 =>
    cases H2
    rename_i u _ _
    split at h
    ·rename_i t htys
     have htys:tys=#[t]:=by rw [←Array.toList_inj];simpa using htys
     subst htys
     obtain ⟨ti,hti,h⟩:=Y1 h
     obtain ⟨d,hd,hsh⟩:=(hT _ hti).run (w:=w)
     simp only at hd hsh
     split at h
     ·rename_i hs
      rw [hs] at hsh
      simp only [ShOK] at hsh
      subst hsh
      split at h
      ·cases H1
       rename_i s0 _
       exact ⟨Builtin.len_ #[t] ty #[.string s0],.int .i64 s0.size,_,w,st,wr,g,rfl,by simp [Builtin.len_,hd,goInt],I,.int _ _,h⟩
      ·cases h
     ·rename_i e hs
      rw [hs] at hsh
      simp only [ShOK] at hsh
      subst hsh
      split at h
      ·cases h
      ·rename_i hns
       obtain ⟨n,h,hv⟩:=Xrt I.good.rel h H1
       rcases hv with ⟨aa,c,rfl⟩ | ⟨s0,rfl,_⟩
       ·exact ⟨Builtin.len_ #[t] ty #[.slice aa n c],.int .i64 n,_,w,st,wr,g,rfl,by simp [Builtin.len_,hd,goInt],I,.int _ _,h⟩
       ·cases H1 with
        | str=>exact absurd rfl (hns _)
        | ref h1=>obtain ⟨_,_,_,h2,_⟩:=I.good.rel.slice_of h1;cases h2
        | sub h1 hl h2=>obtain ⟨_,_,h3⟩:=h2.one;cases h3
        | undef=>simp [Xe2] at h
     ·cases h
    ·cases h
 ·rename_i hb;cases hb
 ·rename_i hb;cases hb
 ·rename_i hb;cases hb
 ·cases h
end
end Go.Abs
namespace Go.Abs
section
variable {P:Program} {cfg:Cfg} {lv:Lev} {C:Ctx} {ts:List (List Value)} {w w':World} {a:Act} {st:St} {wr:Wrs} {g:Gh} {c:St→R} {res:Res} {o:Oper} {slot:Nat}
theorem Xee {mx:Bool} {h:Heap}:∀ {l:List AV} {us:List Value} {u:Value} {av:AV} {k:AV→R},Xlv mx av l k=some res→VR w h g u av→VRs w h g us l →
 ∃ v av',(us.foldlM (match mx with | true=>Builtin.max2 | false=>Builtin.min2) u).run P w=.ok v w∧VR w h g v av'∧k av'=some res
 | [],_,u,av,k,hh,H,.nil=>⟨u,av,by simp,H,hh⟩
 | b::l,_,u,av,k,hh,H,.cons H1 H2=>by
   unfold Xlv at hh
   split at hh
   ·rename_i heq;cases heq
   ·rename_i kd x kd' y l' heq
    cases heq
    split at hh
    ·rename_i hd
     simp only [decide_eq_true_eq] at hd
     subst hd
     cases H
     cases H1
     obtain ⟨v,av',h1,h2,h3⟩:=Xee hh (.int _ _) H2
     refine ⟨v,av',?_,h2,h3⟩
     rw [List.foldlM_cons]
     cases mx with
     | true =>
       have e:(Builtin.max2 (.int kd x) (.int kd y)).run P w=.ok (.int kd (max x y)) w:=by
        simp only [Builtin.max2,Sem.run_pure]
        congr 2
        omega
       simp only [Sem.run_bind,e,Result.andThen_ok]
       exact h1
     | false =>
       have e:(Builtin.min2 (.int kd x) (.int kd y)).run P w=.ok (.int kd (min x y)) w:=by
        simp only [Builtin.min2,Sem.run_pure]
        congr 2
        omega
       simp only [Sem.run_bind,e,Result.andThen_ok]
       exact h1
    ·cases hh
   ·cases hh
theorem Xtm {cl:Call} {b:Builtin} {Q:Exit→Act→World→Prop} (ho:o.op=.call cl) (hb:cl.callee=.builtin b) (h:evOp cfg lv slot o st c=some res) (I:Inv C ts w a st wr g)
 (hB:∀ (vals:List Value) (vs:List AV) (k:AV→St→R),Wn cfg slot b cl.argTypes.toList vs st k=some res→VRs w st.heap g vals vs→BOut P C ts w a b cl.argTypes vals.toArray k res):o.wp P a w (Post C ts c res) Q:=by
 simp only [evOp,ho,hb] at h
 obtain ⟨vs,h,H⟩:=Xa8 I.good.env h
 obtain ⟨s,v,av,w',st',wr',g',h1,h2,I',H',h3⟩:=hB _ _ _ h H o.type (cl.args.map fun | .const _=>true | _=>false)
 have e1:(cl.args.toList.map a.eval).toArray=cl.args.map a.eval:=by rw [←Array.toList_map]
 rw [e1] at h1
 refine Zs (s:=s) (v:=v) (w':=w') ?_ h2 (I'.put h3 H')
 have e2:execOp a.eval o=builtin b cl.argTypes o.type (cl.args.map fun | .const _=>true | _=>false) (cl.args.map a.eval):=by
  simp only [execOp,ho,resolve,hb]
  rfl
 rw [e2]
 exact h1
end
end Go.Abs
namespace Go.Abs
section
variable {P:Program} {cfg:Cfg} {lv:Lev} {C:Ctx} {ts:List (List Value)} {w w':World} {a:Act} {st:St} {wr:Wrs} {g:Gh} {c:St→R} {res:Res} {o:Oper} {slot:Nat}
structure Cells (w:World) (own:Bool) (K:CS) (S:BS) (sz:Nat) (rows:Rows) (cells:List Value) (f:Nat→Nat→BS):Prop where
 len:cells.length=rows.length*sz
 row:∀ row∈rows,row.length=sz
 cell:∀ (i j:Nat) (row:List AV) (a:AV),rows[i]?=some row→row[j]?=some a→TR w own K (f i j) (cells.getD (i*sz+j) default) a
 sub:∀ i j k,f i j k→S k
 own:own=true→∀ i j i' j' k,f i j k→f i' j' k→i=i'∧j=j'
theorem Xw0 {q sz n:Nat} (h:q<n*sz):q / sz<n∧q % sz<sz∧q=q / sz*sz+q % sz:=by
 have hs:0<sz:=by
  rcases Nat.eq_zero_or_pos sz with rfl | h'
  ·simp at h
  ·exact h'
 exact ⟨(Nat.div_lt_iff_lt_mul hs).2 h,Nat.mod_lt _ hs,(by rw [Nat.mul_comm];exact (Nat.div_add_mod q sz).symm)⟩
theorem TR.src {own:Bool} {K:CS} {S:BS} {v:Value} {sz:Nat} {rows:Rows} {tx e':TypeId} (T:TR w own K S v (.lst sz rows)) (hk:P.underlying tx=some (.slice e')) (hw:Xjc rows=true) :
 ∃ cells f,Src P sz tx v rows.length cells w∧Cells w own K S sz rows cells f:=by
 rcases T.lst_inv with ⟨rfl,aa,rfl⟩ | ⟨b,o,c,cs,e,fz,f,rfl,hb,hs,hc,hl,hK,hS,hf,hd,hcell⟩
 ·refine ⟨[],fun _ _ _=>False,?_,by simp,fun _ h=>by simp at h,fun i j row av hr=>by simp at hr,fun _ _ _ h=>h.elim,fun _ _ _ _ _ _ h=>h.elim⟩
  cases aa with
  | none=>exact Src.ofNil w hk 0
  | some ad=>exact Src.ofSlice w hk ad 0 0 [] (by simp) (fun j u hu=>by simp at hu) (fun u hu=>by simp at hu)
 ·have hsz:o+rows.length*sz≤cs.size:=by
   have:rows.length*sz≤c*sz:=Nat.mul_le_mul_right _ hc
   omega
  have hget:∀ q,q<rows.length*sz→((cs.toList.drop o).take (rows.length*sz))[q]?=some (cs.getD (o+q) default):=by
   intro q hq
   rw [List.getElem?_take_of_lt hq,List.getElem?_drop]
   simp [Array.getD_eq_getD_getElem?,show o+q<cs.size by omega]
  have hlen:((cs.toList.drop o).take (rows.length*sz)).length=rows.length*sz:=by simp;omega
  refine ⟨(cs.toList.drop o).take (rows.length*sz),f,Src.ofSlice w hk ⟨b,o,none⟩ rows.length c _ hlen (fun j u hu=>?_) (fun u hu=>?_),hlen,hl,fun i j row av hr ha=>?_,hf,fun ho=>(hd ho).2⟩
  ·have hj:j<rows.length*sz:=by rw [←hlen];exact (List.getElem?_eq_some_iff.1 hu).1
   rw [hget j hj] at hu
   cases hu
   rw [Addr.add_eq,Wj hb]
   simp [Array.getD_eq_getD_getElem?,show o+j<cs.size by omega]
  ·obtain ⟨q,hq⟩:=List.mem_iff_getElem?.1 hu
   have hj:q<rows.length*sz:=by rw [←hlen];exact (List.getElem?_eq_some_iff.1 hq).1
   rw [hget q hj] at hq
   cases hq
   obtain ⟨h1,h2,h3⟩:=Xw0 hj
   have hr:rows[q / sz]?=some rows[q / sz]:=List.getElem?_eq_getElem h1
   have hrl:=hl _ (mem_get hr)
   have ha:(rows[q / sz])[q % sz]?=some ((rows[q / sz])[q % sz]'(by rw [hrl];exact h2)):=List.getElem?_eq_getElem _
   have ht:=hcell _ _ _ _ hr ha
   rw [Nat.add_assoc,←h3] at ht
   refine ht.one (fun e=>?_)
   have hx:=List.all_eq_true.1 hw _ (mem_get hr)
   have hy:=List.all_eq_true.1 hx _ (mem_get ha)
   rw [e] at hy
   simp [X3c] at hy
  ·have hi:i<rows.length:=(List.getElem?_eq_some_iff.1 hr).1
   have hj:j<sz:=by rw [←hl row (mem_get hr)];exact (List.getElem?_eq_some_iff.1 ha).1
   have hq:i*sz+j<rows.length*sz:=by
    have:(i+1)*sz≤rows.length*sz:=Nat.mul_le_mul_right _ (by omega)
    rw [Nat.succ_mul] at this
    omega
   have:=hcell i j row av hr ha
   rw [List.getD_eq_getElem?_getD,hget _ hq]
   simpa [Nat.add_assoc] using this
end
end Go.Abs
namespace Go.Abs
section
variable {P:Program} {cfg:Cfg} {C:Ctx} {ts:List (List Value)} {tm:List Value} {w:World} {a:Act} {st:St} {wr:Wrs} {g:Gh} {res:Res}
theorem Xw1 {l:List AV} (h:Xlt l=true):∀ a∈l,(∃ b,a=.bool b)∨(∃ k n,a=.int k n)∨∃ s,a=.str s:=by
 induction l with
 | nil=>intro a ha;simp at ha
 | cons v l ih =>
   intro a ha
   cases v <;> simp only [Xlt] at h <;> try (cases h;done)
   all_goals
    rcases List.mem_cons.1 ha with rfl | ha
    ·first | exact .inl ⟨_,rfl⟩ | exact .inr (.inl ⟨_,_,rfl⟩) | exact .inr (.inr ⟨_,rfl⟩)
    ·exact ih h a ha
theorem Xh2 {rows:Rows} (h:Y0 rows=true):∀ row∈rows,∀ a∈row,(∃ b,a=.bool b)∨(∃ k n,a=.int k n)∨∃ s,a=.str s :=
 fun row hr=>Xw1 (List.all_eq_true.1 h row hr)
theorem Xqd {rows:Rows} (h:Y0 rows=true) (off len:Nat):Y0 ((rows.drop off).take len)=true :=
 List.all_eq_true.2 fun row hr=>List.all_eq_true.1 h row (List.mem_of_mem_drop (List.mem_of_mem_take hr))
theorem Xff {rows:Rows} (h:Y0 rows=true):Xjc rows=true :=
 List.all_eq_true.2 fun row hr=>List.all_eq_true.2 fun a ha=>by
  rcases Xh2 h row hr a ha with ⟨_,rfl⟩ | ⟨_,_,rfl⟩ | ⟨_,rfl⟩ <;> rfl
theorem TR.leaf {own own':Bool} {K K':CS} {S S':BS} {u:Value} {a:AV} (h:TR w own K S u a) (hl:(∃ b,a=.bool b)∨(∃ k n,a=.int k n)∨∃ s,a=.str s):TR w own' K' S' u a:=by
 rcases hl with ⟨_,rfl⟩ | ⟨_,_,rfl⟩ | ⟨_,rfl⟩ <;> cases h <;> constructor
theorem Cells.leaf {own:Bool} {K:CS} {S:BS} {sz:Nat} {rows:Rows} {cells:List Value} {f:Nat→Nat→BS} (h:Cells w own K S sz rows cells f) (hl:Y0 rows=true) (K':CS) :
 Cells w true K' (fun _=>False) sz rows cells (fun _ _ _=>False) :=
 ⟨h.len,h.row,fun i j row a hr ha=>(h.cell i j row a hr ha).leaf (Xh2 hl row (mem_get hr) a (mem_get ha)),fun _ _ _ h=>h,fun _ _ _ _ _ _ h=>h.elim⟩
structure News (P:Program) (w:World) (wr:Wrs) (ts:List (List Value)) (tm:List Value) (st:St) (g:Gh) (sz:Nat) (tx:TypeId) (v:Value) (news:Rows) (st1:St) (g1:Gh) (cells:List Value) (S:BS) (f:Nat→Nat→BS):Prop where
 good:Good w wr ts tm st1 g1
 less:Less w st.heap g st1.heap g1
 src:Src P sz tx v news.length cells w
 cells:Cells w true (Kr w wr false) S sz news cells f
 apart:∀ k,S k→k<w.heap.size∧∀ r' x',st1.heap[r']?.join=some x'→¬g1.F r' k
theorem News.plain {sz:Nat} {tx:TypeId} {v:Value} {news:Rows} {cells:List Value} (G:Good w wr ts tm st g) (hs:Src P sz tx v news.length cells w) (hc:Cells w true (Kr w wr false) (fun _=>False) sz news cells (fun _ _ _=>False)) :
 News P w wr ts tm st g sz tx v news st g cells (fun _=>False) (fun _ _ _=>False):=⟨G,.refl,hs,hc,fun _ h=>h.elim⟩
theorem Xnp {ei:TInfo} {tx e':TypeId} {v:Value} {av:AV} {k:Rows→St→R} (hk:P.underlying tx=some (.slice e')) (hns:∀ s,v≠.string s) (h:Xf8 cfg ei av st k=some res) (G:Good w wr ts tm st g) (H:VR w st.heap g v av) :
 ∃ news st1 g1 cells S f,k news st1=some res∧News P w wr ts tm st g ei.size tx v news st1 g1 cells S f:=by
 have hnil:∀ aa:Option Addr,Src P ei.size tx (.slice aa 0 0) 0 [] w:=by
  intro aa
  cases aa with
  | none=>exact Src.ofNil w hk 0
  | some ad=>exact Src.ofSlice w hk ad 0 0 [] (by simp) (fun j u hu=>by simp at hu) (fun u hu=>by simp at hu)
 have cnil:Cells w true (Kr w wr false) (fun _=>False) ei.size [] [] (fun _ _ _=>False):=⟨by simp,fun _ h=>by simp at h,fun i j row av hr=>by simp at hr,fun _ _ _ h=>h,fun _ _ _ _ _ _ h=>h.elim⟩
 have read:∀ (r:Nat) (p:Path) (v0:Value) (sz:Nat) (rows:Rows) (x:Root) (off len:Nat) (all:Bool),Yq w st.heap g r p=some (v0,sz,rows)→st.heap[r]?.join=some x→¬(x.box=true∧p=[])→sz=ei.size→Y0 rows=true →
  ∃ own K S,TR w own K S v0 (.lst sz rows):=by
  intro r p v0 sz rows x off len _ hw hx hb _ _
  obtain ⟨x',hx',hr,hv⟩:=Yr hw
  rw [hx] at hx'
  cases hx'
  obtain ⟨v',hw',hc⟩:=G.rel.walks hx hr hv
  rw [hw] at hw'
  cases hw'
  rcases hc with ⟨h1,h2⟩ | ⟨S,ht,_⟩
  ·exact absurd ⟨h2,h1⟩ hb
  ·exact ⟨_,_,_,ht⟩
 cases H <;> simp only [Xf8] at h <;> try (cases h;done)
 ·exact absurd rfl (hns _)
 ·exact ⟨[],st,g,[],_,_,h,.plain G (hnil none) cnil⟩
 ·rename_i r p sz rows h1
  split at h
  ·obtain ⟨x,sz',rows',hres,h⟩:=Ul h
   obtain ⟨x',hx',hr',_⟩:=Yr h1
   simp only [Abs.res,hx',hr',Option.some.injEq,Prod.mk.injEq] at hres
   obtain ⟨rfl,rfl,rfl⟩:=hres
   split at h
   ·rename_i hd
    simp only [decide_eq_true_eq] at hd
    have main:br (Y0 rows) (k rows st) none=some res→¬(x'.box=true∧p=[])→∃ news st1 g1 cells S f,k news st1=some res∧News P w wr ts tm st g ei.size tx v news st1 g1 cells S f:=by
     intro h hb
     rcases Z7 h with ⟨hlf,h⟩ | ⟨_,h⟩
     ·obtain ⟨own,K,S,ht⟩:=read r p v sz rows x' 0 0 true h1 hx' hb hd hlf
      obtain ⟨cells,f,hs,hc⟩:=ht.src hk (Xff hlf)
      have hc:=hc.leaf hlf (Kr w wr false)
      rw [hd] at hs hc
      exact ⟨rows,st,g,cells,_,_,h,.plain G hs hc⟩
     ·cases h
    split at h
    ·cases h
    ·rename_i hnb _ _
     exact main h (fun e=>hnb e.1 e.2)
   ·cases h
  ·split at h
   ·obtain ⟨v1,sz1,rows1,S,st1,g1,h,T⟩:=W3 h G
    have hat:=T.at_
    rw [h1] at hat
    cases hat
    split at h
    ·rename_i hd
     simp only [decide_eq_true_eq] at hd
     rcases Z7 h with ⟨hwh,h⟩ | ⟨_,h⟩
     ·obtain ⟨cells,f,hs,hc⟩:=T.tree.src hk hwh
      rw [hd] at hs hc
      exact ⟨_,st1,g1,cells,S,f,h,T.good,T.less,hs,hc,T.apart⟩
     ·cases h
    ·cases h
   ·cases h
 ·rename_i r p off len sz rows v0 h1 hl h2
  split at h
  ·obtain ⟨x,sz',rows',hres,h⟩:=Ul h
   obtain ⟨x',hx',hr',_⟩:=Yr h1
   simp only [Abs.res,hx',hr',Option.some.injEq,Prod.mk.injEq] at hres
   obtain ⟨rfl,rfl,rfl⟩:=hres
   split at h
   ·rename_i hd
    simp only [decide_eq_true_eq] at hd
    have main:br (Y0 rows) (k ((rows.drop off).take len) st) none=some res→¬(x'.box=true∧p=[])→∃ news st1 g1 cells S f,k news st1=some res∧News P w wr ts tm st g ei.size tx v news st1 g1 cells S f:=by
     intro h hb
     rcases Z7 h with ⟨hlf,h⟩ | ⟨_,h⟩
     ·obtain ⟨own,K,S,ht⟩:=read r p v0 sz rows x' 0 0 true h1 hx' hb hd hlf
      have hlf':=Xqd hlf off len
      obtain ⟨cells,f,hs,hc⟩:=(ht.sub hl h2).src hk (Xff hlf')
      have hc:=hc.leaf hlf' (Kr w wr false)
      rw [hd] at hs hc
      exact ⟨_,st,g,cells,_,_,h,.plain G hs hc⟩
     ·cases h
    split at h
    ·cases h
    ·rename_i hnb _ _
     exact main h (fun e=>hnb e.1 e.2)
   ·cases h
  ·cases h
 ·exact ⟨[],st,g,[],_,_,h,.plain G (hnil _) cnil⟩
end
end Go.Abs
namespace Go.Abs
theorem Xdf {b:Nat}:∀ (us:List Value) (o:Nat) (w:World) (cs:Array Value) (e:TypeId) (fz:Nat×Nat),w.heap[b]?=some (.cells cs e fz) →
 ∃ cs',(w.setCells b o us).heap[b]?=some (.cells cs' e fz)∧cs'.size=cs.size∧(∀ q,q<o∨o+us.length≤q→cs'.getD q default=cs.getD q default) ∧
  ∀ q,q<us.length→o+q<cs.size→cs'.getD (o+q) default=us.getD q default
 | [],o,w,cs,e,fz,h=>⟨cs,h,rfl,fun _ _=>rfl,fun q hq=>by simp at hq⟩
 | u::us,o,w,cs,e,fz,h=>by
   obtain ⟨cs',h1,h2,h3,h4⟩:=Xdf us (o+1) (w.setCell ⟨b,o,none⟩ u) _ e fz (Ux h)
   refine ⟨cs',h1,by rw [h2];simp,fun q hq=>?_,fun q hq hs=>?_⟩
   ·simp only [List.length_cons] at hq
    rw [h3 q (by omega),Xp1 (by omega)]
   ·cases q with
    | zero =>
      rw [h3 (o+0) (by omega)]
      simp only [Nat.add_zero] at hs ⊢
      rw [Xec hs]
      simp
    | succ q =>
      have:=h4 q (by simpa using hq) (by simp;omega)
      rw [show o+(q+1)=o+1+q by omega,this]
      simp
theorem Q2 {b k:Nat} (hk:k≠b):∀ (us:List Value) (o:Nat) (w:World),(w.setCells b o us).heap[k]?=w.heap[k]?
 | [],_,_=>rfl
 | u::us,o,w=>by rw [World.setCells,Q2 hk us,Z5 hk]
theorem TR.room {w:World} {K:CS} {S0 S:BS} {b o n c sz:Nat} {old news:Rows} {cells:List Value} {f:Nat→Nat→BS} (T:TR w true K S0 (.slice (some ⟨b,o,none⟩) n c) (.lst sz old)) (hpos:c≠0)
 (D:Cells w true K S sz news cells f) (hap:∀ k,S k→¬S0 k) (hr:n+news.length≤c) :
 S0 b∧(∀ q,q<cells.length→(w.cell? ⟨b,o+n*sz+q,none⟩).isSome=true∧K b (o+n*sz+q)) ∧
 TR (w.setCells b (o+n*sz) cells) true K (fun k=>S0 k∨S k) (.slice (some ⟨b,o,none⟩) (n+news.length) c) (.lst sz (old++news)):=by
 rcases T.lst_inv with ⟨rfl,aa,hv⟩ | ⟨b',o',c',cs,e,fz,f0,hv,hb,hs,hc,hl,hK,hS,hf,hd,hcell⟩
 ·cases hv
  exact absurd rfl hpos
 ·simp only [Value.slice.injEq,Option.some.injEq,Addr.mk.injEq] at hv
  obtain ⟨⟨rfl,rfl,_⟩,rfl,rfl⟩:=hv
  obtain ⟨hd1,hd2⟩:=hd rfl
  have hm:old.length*sz+cells.length≤c*sz:=by
   rw [D.len,←Nat.add_mul]
   exact Nat.mul_le_mul_right _ hr
  obtain ⟨cs',h1,h2,h3,h4⟩:=Xdf cells (o+old.length*sz) w cs e fz hb
  refine ⟨hS,fun q hq=>⟨?_,hK.2 _ (by omega) (by omega)⟩,?_⟩
  ·rw [Wj hb]
   have:o+old.length*sz+q<cs.size:=by omega
   simp [this]
  ·have hlen:(old++news).length=old.length+news.length:=by simp
   have:=TR.lst (w:=w.setCells b (o+old.length*sz) cells) (own:=true) (K:=K) (S:=fun k=>S0 k∨S k) (b:=b) (o:=o) (c:=c) (cs:=cs') (e:=e) (fz:=fz) (sz:=sz) (rows:=old++news)
    (fun i j k=>if i<old.length then f0 i j k else f (i - old.length) j k) h1 (by omega) (by omega)
    (fun row hr=>by
     rcases List.mem_append.1 hr with hr | hr
     ·exact hl row hr
     ·exact D.row row hr) hK (.inl hS)
    (fun i j k hk=>by
     split at hk
     ·exact .inl (hf _ _ _ hk)
     ·exact .inr (D.sub _ _ _ hk))
    (fun _=>by
     refine ⟨fun i j hk=>?_,fun i j i' j' k k1 k2=>?_⟩
     ·split at hk
      ·exact hd1 _ _ hk
      ·exact hap _ (D.sub _ _ _ hk) hS
     ·split at k1 <;> split at k2
      ·exact hd2 _ _ _ _ k k1 k2
      ·exact absurd (hf _ _ _ k1) (hap _ (D.sub _ _ _ k2))
      ·exact absurd (hf _ _ _ k2) (hap _ (D.sub _ _ _ k1))
      ·have:=D.own rfl _ _ _ _ k k1 k2
       omega)
    (fun i j row av hr ha=>by
     have hother:∀ k,k≠b→(w.setCells b (o+old.length*sz) cells).heap[k]?=w.heap[k]?:=fun k hk=>Q2 hk _ _ _
     by_cases hi:i<old.length
     ·rw [List.getElem?_append_left hi] at hr
      simp only [if_pos hi]
      have hj:j<sz:=by rw [←hl row (mem_get hr)];exact (List.getElem?_eq_some_iff.1 ha).1
      have hlt:i*sz+j<old.length*sz:=by
       have:(i+1)*sz≤old.length*sz:=Nat.mul_le_mul_right _ (by omega)
       rw [Nat.succ_mul] at this
       omega
      rw [h3 _ (by omega)]
      exact (hcell i j row av hr ha).world (fun k hk=>hother k (fun e=>hd1 i j (e▸hk)))
     ·rw [List.getElem?_append_right (by omega)] at hr
      simp only [if_neg hi]
      have hin:i - old.length<news.length:=(List.getElem?_eq_some_iff.1 hr).1
      have hj:j<sz:=by rw [←D.row row (mem_get hr)];exact (List.getElem?_eq_some_iff.1 ha).1
      have hlt:(i - old.length)*sz+j<cells.length:=by
       rw [D.len]
       have:(i - old.length+1)*sz≤news.length*sz:=Nat.mul_le_mul_right _ (by omega)
       rw [Nat.succ_mul] at this
       omega
      have e1:o+i*sz+j=o+old.length*sz+((i - old.length)*sz+j):=by
       have:i*sz=old.length*sz+(i - old.length)*sz:=by rw [←Nat.add_mul];congr 1;omega
       omega
      rw [e1,h4 _ hlt (by omega)]
      exact (D.cell _ j row av hr ha).world (fun k hk=>hother k (fun e=>hap _ (D.sub _ _ _ hk) (e▸hS))))
   rw [hlen] at this
   exact this
end Go.Abs
namespace Go.Abs
section
variable {P:Program} {w:World}
theorem TR.olds {own:Bool} {K:CS} {S:BS} {v:Value} {sz:Nat} {rows:Rows} (T:TR w own K S v (.lst sz rows)) :
 ∃ base c cells f,v=.slice base rows.length c∧(Builtin.firstCells sz rows.length (.slice base rows.length c)).run P w.drew=.ok cells.toArray w.drew∧Cells w own K S sz rows cells f:=by
 rcases T.lst_inv with ⟨rfl,aa,rfl⟩ | ⟨b,o,c,cs,e,fz,f,rfl,hb,hs,hc,hl,hK,hS,hf,hd,hcell⟩
 ·refine ⟨aa,0,[],fun _ _ _=>False,rfl,?_,by simp,fun _ h=>by simp at h,fun i j row av hr=>by simp at hr,fun _ _ _ h=>h.elim,fun _ _ _ _ _ _ h=>h.elim⟩
  cases aa with
  | none=>exact run_firstCells_none w.drew sz 0 0 0
  | some ad=>exact run_firstCells_some w.drew sz 0 ad 0 0 [] (by simp) (fun j u hu=>by simp at hu)
 ·have hsz:o+rows.length*sz≤cs.size:=by
   have:rows.length*sz≤c*sz:=Nat.mul_le_mul_right _ hc
   omega
  have hget:∀ q,q<rows.length*sz→((cs.toList.drop o).take (rows.length*sz))[q]?=some (cs.getD (o+q) default):=by
   intro q hq
   rw [List.getElem?_take_of_lt hq,List.getElem?_drop]
   simp [Array.getD_eq_getD_getElem?,show o+q<cs.size by omega]
  have hlen:((cs.toList.drop o).take (rows.length*sz)).length=rows.length*sz:=by simp;omega
  refine ⟨_,c,(cs.toList.drop o).take (rows.length*sz),f,rfl,run_firstCells_some w.drew sz rows.length ⟨b,o,none⟩ rows.length c _ hlen (fun j u hu=>?_),hlen,hl,fun i j row av hr ha=>?_,hf,fun ho=>(hd ho).2⟩
  ·have hj:j<rows.length*sz:=by rw [←hlen];exact (List.getElem?_eq_some_iff.1 hu).1
   rw [hget j hj] at hu
   cases hu
   rw [Addr.add_eq]
   have hb':w.drew.heap[b]?=some (.cells cs e fz):=hb
   rw [Wj hb']
   simp [Array.getD_eq_getD_getElem?,show o+j<cs.size by omega]
  ·have hi:i<rows.length:=(List.getElem?_eq_some_iff.1 hr).1
   have hj:j<sz:=by rw [←hl row (mem_get hr)];exact (List.getElem?_eq_some_iff.1 ha).1
   have hq:i*sz+j<rows.length*sz:=by
    have:(i+1)*sz≤rows.length*sz:=Nat.mul_le_mul_right _ (by omega)
    rw [Nat.succ_mul] at this
    omega
   have:=hcell i j row av hr ha
   rw [List.getD_eq_getElem?_getD,hget _ hq]
   simpa [Nat.add_assoc] using this
end
end Go.Abs
namespace Go.Abs
theorem Cells.append {w:World} {K:CS} {S1 S2:BS} {sz:Nat} {r1 r2:Rows} {c1 c2:List Value} {f1 f2:Nat→Nat→BS} (A:Cells w true K S1 sz r1 c1 f1) (B:Cells w true K S2 sz r2 c2 f2) (hap:∀ k,S1 k→¬S2 k) :
 Cells w true K (fun k=>S1 k∨S2 k) sz (r1++r2) (c1++c2) (fun i j k=>if i<r1.length then f1 i j k else f2 (i - r1.length) j k):=by
 refine ⟨by simp [A.len,B.len,Nat.add_mul],fun row hr=>?_,fun i j row av hr ha=>?_,fun i j k hk=>?_,fun _ i j i' j' k k1 k2=>?_⟩
 ·rcases List.mem_append.1 hr with hr | hr
  ·exact A.row row hr
  ·exact B.row row hr
 ·by_cases hi:i<r1.length
  ·rw [List.getElem?_append_left hi] at hr
   simp only [if_pos hi]
   have hj:j<sz:=by rw [←A.row row (mem_get hr)];exact (List.getElem?_eq_some_iff.1 ha).1
   have hlt:i*sz+j<c1.length:=by
    rw [A.len]
    have:(i+1)*sz≤r1.length*sz:=Nat.mul_le_mul_right _ (by omega)
    rw [Nat.succ_mul] at this
    omega
   rw [List.getD_eq_getElem?_getD,List.getElem?_append_left hlt,←List.getD_eq_getElem?_getD]
   exact A.cell i j row av hr ha
  ·rw [List.getElem?_append_right (by omega)] at hr
   simp only [if_neg hi]
   have e1:i*sz+j=c1.length+((i - r1.length)*sz+j):=by
    rw [A.len]
    have:i*sz=r1.length*sz+(i - r1.length)*sz:=by rw [←Nat.add_mul];congr 1;omega
    omega
   rw [List.getD_eq_getElem?_getD,e1,List.getElem?_append_right (by omega),Nat.add_sub_cancel_left,←List.getD_eq_getElem?_getD]
   exact B.cell _ j row av hr ha
 ·split at hk
  ·exact .inl (A.sub _ _ _ hk)
  ·exact .inr (B.sub _ _ _ hk)
 ·split at k1 <;> split at k2
  ·exact A.own rfl _ _ _ _ k k1 k2
  ·exact absurd (B.sub _ _ _ k2) (hap k (A.sub _ _ _ k1))
  ·exact absurd (B.sub _ _ _ k1) (hap k (A.sub _ _ _ k2))
  ·have:=B.own rfl _ _ _ _ k k1 k2
   omega
theorem Cells.grid {w:World} {wr:Wrs} {h:Heap} {g:Gh} {S:BS} {sz:Nat} {rows:Rows} {cells:List Value} {f:Nat→Nat→BS} (A:Cells w true (Kr w wr false) S sz rows cells f)
 (hap:∀ k,S k→k<w.heap.size∧∀ r' x',h[r']?.join=some x'→¬g.F r' k) (z:Array Value):Grid w wr h g false sz rows (cells.toArray++z) f:=by
 refine ⟨A.row,fun i j row av hr ha=>?_,fun i j k hk=>hap k (A.sub _ _ _ hk),fun i j i' j' k k1 k2=>A.own rfl _ _ _ _ k k1 k2⟩
 have hi:i<rows.length:=(List.getElem?_eq_some_iff.1 hr).1
 have hj:j<sz:=by rw [←A.row row (mem_get hr)];exact (List.getElem?_eq_some_iff.1 ha).1
 have hlt:i*sz+j<cells.length:=by
  rw [A.len]
  have:(i+1)*sz≤rows.length*sz:=Nat.mul_le_mul_right _ (by omega)
  rw [Nat.succ_mul] at this
  omega
 have e1:(cells.toArray++z).getD (i*sz+j) default=cells.getD (i*sz+j) default:=by
  simp only [Array.getD_eq_getD_getElem?,List.getD_eq_getElem?_getD]
  rw [Array.getElem?_append_left (by simpa using hlt)]
  simp
 rw [e1]
 have ht:=A.cell i j row av hr ha
 exact ⟨fun _=>ht,fun hx=>by rw [(Xp0 0 [] ht).2] at hx;cases hx⟩
end Go.Abs
namespace Go.Abs
section
variable {P:Program} {cfg:Cfg} {lv:Lev} {C:Ctx} {ts:List (List Value)} {w w':World} {a:Act} {st:St} {wr:Wrs} {g:Gh} {res:Res} {slot:Nat}
theorem X53 {tys:Array TypeId} {vals:List Value} {vs:List AV} {k:AV→St→R} (h:Wn cfg slot .min tys.toList vs st k=some res) (I:Inv C ts w a st wr g) (H:VRs w st.heap g vals vs) :
 BOut P C ts w a .min tys vals.toArray k res:=by
 intro ty consts
 cases H with
 | nil=>simp [Wn] at h
 | cons H1 H2 =>
   simp only [Wn] at h
   obtain ⟨v,av,h1,h2,h3⟩:=Xee (P:=P) h H1 H2
   exact ⟨Builtin.min_ tys ty _,v,av,w,st,wr,g,rfl,by simpa [Builtin.min_] using h1,I,h2,h3⟩
theorem X54 {tys:Array TypeId} {vals:List Value} {vs:List AV} {k:AV→St→R} (h:Wn cfg slot .max tys.toList vs st k=some res) (I:Inv C ts w a st wr g) (H:VRs w st.heap g vals vs) :
 BOut P C ts w a .max tys vals.toArray k res:=by
 intro ty consts
 cases H with
 | nil=>simp [Wn] at h
 | cons H1 H2 =>
   simp only [Wn] at h
   obtain ⟨v,av,h1,h2,h3⟩:=Xee (P:=P) h H1 H2
   exact ⟨Builtin.max_ tys ty _,v,av,w,st,wr,g,rfl,by simpa [Builtin.max_] using h1,I,h2,h3⟩
end
end Go.Abs
namespace Go.Abs
theorem Xom {w w':World} (hh:w'.heap=w.heap):∀ (p:Path) (v:Value) (sz:Nat) (rows:Rows),walk w' v sz rows p=walk w v sz rows p
 | [],_,_,_=>rfl
 | (i,j)::p,v,sz,rows=>by
   have hc:∀ ad,w'.cell? ad=w.cell? ad:=fun ad=>by simp only [World.cell?,hh]
   simp only [walk,hc,Xom hh p]
theorem Xmh {w w':World} (hh:w'.heap=w.heap) (h:Heap) (g:Gh) (r:Nat) (p:Path):Yq w' h g r p=Yq w h g r p:=by
 unfold Yq
 simp only [Xom hh]
theorem Rel.heap {w w':World} {wr:Wrs} {h:Heap} {g:Gh} (hh:w'.heap=w.heap) (R:Rel w wr h g):Rel w' wr h g:=by
 have keeps:Vf (fun _ _=>True) w h g w' h g:=fun r p v sz rows _ hq=>⟨rows,(Xmh hh h g r p).trans hq,rfl⟩
 have hn:h[h.length]?.join=none:=by simp
 exact R.change (r:=h.length) (X:=none) (Xcd.all (fun _ _=>trivial) h) keeps (fun r'=>by
  by_cases e:r'=h.length
  ·subst e;rw [if_pos rfl];exact hn
  ·rw [if_neg e]) (by rw [hh];exact Nat.le_refl _) (fun _ _ k _ _ _=>by rw [hh]) (fun _ _=>⟨rfl,rfl,rfl⟩) (fun x hx=>by cases hx) (fun x hx=>by cases hx) (fun x hx=>by cases hx)
theorem Good.heap {w w':World} {wr:Wrs} {ts:List (List Value)} {tm:List Value} {st:St} {g:Gh} (hh:w'.heap=w.heap) (G:Good w wr ts tm st g):Good w' wr ts tm st g :=
 G.keep (Xdn.all (fun _ _=>trivial) st) (fun r p _ _ rows _ hq=>⟨rows,(Xmh hh _ _ r p).trans hq,rfl⟩) (G.rel.heap hh)
theorem Fr.drew {w0:World} {wr0:CS} {w:World} (F:Fr w0 wr0 w):Fr w0 wr0 w.drew:=⟨F.os,F.tape,F.output,F.size,F.block,F.cells⟩
section
variable {P:Program} {cfg:Cfg} {lv:Lev} {C:Ctx} {ts:List (List Value)} {w w':World} {a:Act} {st:St} {wr:Wrs} {g:Gh} {res:Res} {slot:Nat}
theorem Inv.drew (I:Inv C ts w a st wr g):Inv C ts w.drew a st wr g:=⟨Good.heap (w:=w) (w':=w.drew) rfl I.good,I.fr.drew,I.can,I.dom,I.nodef⟩
theorem TR.drew {own:Bool} {S:BS} {v:Value} {av:AV} (h:TR w own (Kr w wr false) S v av):TR w.drew own (Kr w.drew wr false) S v av:=h.same (fun _ _=>rfl)
theorem Cells.drew {S:BS} {sz:Nat} {rows:Rows} {cells:List Value} {f:Nat→Nat→BS} (h:Cells w true (Kr w wr false) S sz rows cells f):Cells w.drew true (Kr w.drew wr false) S sz rows cells f :=
 ⟨h.len,h.row,fun i j row av hr ha=>(h.cell i j row av hr ha).drew,h.sub,h.own⟩
theorem Xg8 (t tx ty e:TypeId) (i:TypeInfo) (ht:P.underlying t=some (.slice e)) (hi:P.info? e=some i) (aa:Option Addr) (x:Value) (hs:Src P i.size tx x 0 [] w) :
 (Builtin.append_ #[t,tx] ty #[.slice aa 0 0,x]).run P w=.ok (.slice aa 0 0) w:=by
 have hc:=hs.cells
 cases aa with
 | none=>rcases hs.kind with ⟨e',hk⟩ | hk <;> simp [Builtin.append_,run_underlying ht,run_underlying hk,sizeOf,typeInfo,hi,hs.len,hc]
 | some ad=>rcases hs.kind with ⟨e',hk⟩ | hk <;> simp [Builtin.append_,run_underlying ht,run_underlying hk,sizeOf,typeInfo,hi,hs.len,hc,storeCells]
theorem Good.root {tm:List Value} (G:Good w wr ts tm st g) (hs:st.heap[slot]?.join=none) {S:BS} {v:Value} {sz:Nat} {rows:Rows} (T:TR w true (Kr w wr false) S v (.lst sz rows))
 (hap:∀ k,S k→k<w.heap.size∧∀ r x,st.heap[r]?.join=some x→¬g.F r k) :
 ∃ g',Good w wr ts tm ⟨st.env,st.stk,put st.heap slot (some ⟨false,false,false,sz,rows⟩)⟩ g'∧Yq w (put st.heap slot (some ⟨false,false,false,sz,rows⟩)) g' slot []=some (v,sz,rows):=by
 obtain ⟨h1,h2⟩:=G.new (w':=w) hs (Nat.le_refl _) (fun _ _=>rfl) ⟨false,false,false,sz,rows⟩ v [] S (fun k hk=>(hap k hk).1) (fun r' x' k hx' _ hk=>(hap k hk).2 r' x' hx') (fun _=>by
  unfold Zu
  simp only [gNew,if_true]
  exact T)
 refine ⟨_,h1,?_⟩
 rw [Y2 (x:=⟨false,false,false,sz,rows⟩) (by rw [Wv,if_pos rfl])]
 simp [walk,gNew]
theorem Good.aside {w':World} {tm:List Value} (G:Good w wr ts tm st g) (hsz:w'.heap.size=w.heap.size) (hw:∀ k,(∃ r x,st.heap[r]?.join=some x∧g.F r k)→w'.heap[k]?=w.heap[k]?):Good w' wr ts tm st g:=by
 have keeps:Vf (fun _ _=>True) w st.heap g w' st.heap g:=fun r p v sz rows _ hq=>⟨rows,by
  rw [Xao (wr:=wr) (fun x hx=>G.rel.root r x hx) rfl ⟨rfl,rfl⟩ (fun x k hx hF=>hw k ⟨r,x,hx,hF⟩)];exact hq,rfl⟩
 refine G.keep (Xdn.all (fun _ _=>trivial) st) keeps (G.rel.change (r:=st.heap.length) (X:=none) (Xcd.all (fun _ _=>trivial) _) keeps (fun r'=>?_) (by rw [hsz];exact Nat.le_refl _) (fun r' x' k _ hx hF=>hw k ⟨r',x',hx,hF⟩) (fun _ _=>⟨rfl,rfl,rfl⟩)
  (fun x hx=>by cases hx) (fun x hx=>by cases hx) (fun x hx=>by cases hx))
 by_cases e:r'=st.heap.length
 ·subst e;rw [if_pos rfl];simp
 ·rw [if_neg e]
theorem Xdg {b:Nat}:∀ (us:List Value) (o:Nat) (w:World),(w.setCells b o us).heap.size=w.heap.size
 | [],_,_=>rfl
 | u::us,o,w=>by rw [World.setCells,Xdg us];simp [World.setCell]
theorem Xru {tm:List Value} {S1 S2:BS} {t tx ty e:TypeId} {ei:TInfo} {v x:Value} {old news:Rows} {cells:List Value} {f:Nat→Nat→BS}
 (hT:TyOK P e ei) (ht:P.underlying t=some (.slice e)) (G:Good w wr ts tm st g) (hs:st.heap[slot]?.join=none) (hsrc:Src P ei.size tx x news.length cells w)
 (T:TR w true (Kr w wr false) S2 v (.lst ei.size old)) (D:Cells w true (Kr w wr false) S1 ei.size news cells f)
 (h1:∀ k,S1 k→k<w.heap.size∧∀ r x,st.heap[r]?.join=some x→¬g.F r k) (h2:∀ k,S2 k→k<w.heap.size∧∀ r x,st.heap[r]?.join=some x→¬g.F r k) (h12:∀ k,S1 k→¬S2 k)
 (hroom:(old.length+news.length)*ei.bytes≤Yf) (h63:old.length+news.length≤9223372036854775807) :
 ∃ v' w' wr' g',(Builtin.append_ #[t,tx] ty #[v,x]).run P w=.ok v' w'∧Good w' wr' ts tm ⟨st.env,st.stk,put st.heap slot (some ⟨false,false,false,ei.size,old++news⟩)⟩ g' ∧
  VR w' (put st.heap slot (some ⟨false,false,false,ei.size,old++news⟩)) g' v' (.ref slot []) ∧
  ((∃ b o,w'=w.setCells b o cells∧wr'=wr∧∀ q,q<cells.length→wr b (o+q))∨∃ ob,w'=w.drew.alloc ob∧wr'=Xgt wr w.heap.size):=by
 obtain ⟨ii,z,hi1,hi2,hi3,hi4,hzc,_,_⟩:=hT.zeros
 obtain ⟨base,c,olds,f0,rfl,hold,hcells⟩:=T.olds
 rw [←hi2] at hsrc
 by_cases hr:old.length+news.length≤c
 ·by_cases hc:c=0
  ·have e1:old=[]:=List.length_eq_zero_iff.1 (by omega)
   have e2:news=[]:=List.length_eq_zero_iff.1 (by omega)
   subst e1 e2 hc
   have e3:cells=[]:=List.length_eq_zero_iff.1 (by rw [D.len];simp)
   subst e3
   obtain ⟨g',k1,k2⟩:=G.root hs T h2
   exact ⟨_,w,wr,g',Xg8 t tx ty e ii ht hi1 base x hsrc,k1,.ref k2,.inl ⟨0,0,rfl,rfl,fun q hq=>by simp at hq⟩⟩
  ·have hb:∃ b o,base=some ⟨b,o,none⟩:=by
    rcases T.lst_inv with ⟨_,aa,hv⟩ | ⟨b,o,c',_,_,_,_,hv,_⟩
    ·simp only [Value.slice.injEq] at hv
     exact absurd hv.2.2 hc
    ·simp only [Value.slice.injEq] at hv
     exact ⟨b,o,hv.1⟩
   obtain ⟨b,o,rfl⟩:=hb
   obtain ⟨hSb,hcan,T'⟩:=T.room hc D h12 hr
   have G':Good (w.setCells b (o+old.length*ei.size) cells) wr ts tm st g:=G.aside (Xdg _ _ _) (fun k ⟨r,y,hy,hF⟩=>Q2 (fun e=>(h2 b hSb).2 r y hy (by subst e;exact hF)) _ _ _)
   have T'':TR (w.setCells b (o+old.length*ei.size) cells) true (Kr (w.setCells b (o+old.length*ei.size) cells) wr false) (fun k=>S2 k∨S1 k) (.slice (some ⟨b,o,none⟩) (old++news).length c) (.lst ei.size (old++news)):=by
    rw [List.length_append]
    refine T'.mono (fun _ h=>h) (fun b' q _ hk=>⟨hk.1,?_⟩)
    rw [World.frozen?_setCells]
    exact hk.2
   obtain ⟨g',k1,k2⟩:=G'.root hs T'' (fun k hk=>by
    rw [Xdg]
    rcases hk with hk | hk
    ·exact h2 k hk
    ·exact h1 k hk)
   rw [List.length_append] at k2
   refine ⟨_,_,wr,g',run_append_room_src w t tx ty e ii ht hi1 b o old.length c x news.length cells hsrc hr (fun j hj=>by rw [hi2];exact (hcan j hj).1) (fun j hj=>by rw [hi2];exact (hcan j hj).2.2),?_⟩
   rw [hi2]
   exact ⟨k1,.ref k2,.inl ⟨b,_,rfl,rfl,fun q hq=>(hcan q hq).2.1⟩⟩
 ·have hfit:Builtin.nextslicecap (old.length+news.length) c*ii.bytes≤281474976710656:=growslice_fits (by omega) (by rw [hi3];exact hroom)
  rw [←hi2] at hold
  have hrun:=run_append_grow_src w t tx ty e ii z ht hi1 hi4 base old.length c olds hold x news.length cells hsrc (by omega) (by omega) hfit
  have A:=hcells.drew.append D.drew (fun k hk1 hk2=>h12 k hk2 hk1)
  have hcap:old.length+news.length≤grownCap w (old.length+news.length) c e:=grownCap_ge w _ _ e
  have Gd:=A.grid (h:=st.heap) (g:=g) (fun k hk=>hk.elim (h2 k) (h1 k)) (Builtin.zeroCells z.cells (grownCap w (old.length+news.length) c e - (old.length+news.length)))
  have hzl:(Builtin.zeroCells z.cells (grownCap w (old.length+news.length) c e - (old.length+news.length))).size=(grownCap w (old.length+news.length) c e - (old.length+news.length))*ei.size:=by
   simp [Builtin.zeroCells,hzc]
  obtain ⟨g',k1,k2,_⟩:=(Good.heap (w:=w) (w':=w.drew) rfl G).block (e:=e) hs (grownCap w (old.length+news.length) c e) Gd (by simpa using hcap) (by
   rw [Array.size_append,hzl]
   simp only [List.size_toArray,List.length_append,hcells.len,D.len]
   rw [←Nat.add_mul,←Nat.add_mul]
   exact Nat.mul_le_mul_right _ (by omega)) (fun h=>by cases h) hT.pos
  rw [List.length_append] at k2
  exact ⟨_,_,Xgt wr w.heap.size,g',hrun,k1,.ref k2,.inr ⟨_,rfl,rfl⟩⟩
end
end Go.Abs
