/- What the program's functions answer (Lib2): no condition. -/
import Derived.Great.BuildSlice
import Derived.Laws.IdiomStrings
import Derived.Laws.BytesArg
import Derived.Test.YtbploohjimpcaaaGreatLib1
set_option linter.unusedVariables false
set_option linter.unusedSimpArgs false
namespace Go.Abs
section
variable {P:Program} {cfg:Cfg} {lv:Lev} {C:Ctx} {ts:List (List Value)} {w w':World} {a:Act} {st:St} {wr:Wrs} {g:Gh} {res:Res} {slot:Nat}
theorem Src.kinds {size:Nat} {tx tx':TypeId} {x:Value} {n:Nat} {news:List Value} (h:Src P size tx x n news w) (hk:(∃ e',P.underlying tx'=some (.slice e'))∨P.underlying tx'=some .string):Src P size tx' x n news w :=
 ⟨hk,h.len,h.cells,h.cellsD,h.newsLen,h.one⟩
theorem Xy8 {n:Nat} {x:R} (h:posK n x=some res):0<n∧x=some res:=by
 cases n with
 | zero=>simp [posK] at h
 | succ n=>exact ⟨by omega,h⟩
theorem Xw2 {t:TypeId} {k:R} (hT:Z2 P cfg.ty) (h:Xxv cfg t k=some res):((∃ e',P.underlying t=some (.slice e'))∨P.underlying t=some .string)∧k=some res:=by
 unfold Xxv at h
 obtain ⟨x,hx,h⟩:=Y1 h
 obtain ⟨d,hd,hs⟩:=(hT _ hx).under
 simp only at hd hs
 split at h
 ·rename_i e he
  rw [he] at hs
  simp only [ShOK] at hs
  exact ⟨.inl ⟨e,by rw [hd,hs]⟩,h⟩
 ·rename_i he
  rw [he] at hs
  simp only [ShOK] at hs
  exact ⟨.inr (by rw [hd,hs]),h⟩
 ·cases h
theorem Xko {K:CS} (s:ByteArray):Cells w true K (fun _=>False) 1 (s.data.toList.map fun b=>[AV.int .u8 b.toNat]) (byteCells s) (fun _ _ _=>False):=by
 refine ⟨by simp [byteCells],fun row hr=>?_,fun i j row av hr ha=>?_,fun _ _ _ h=>h,fun _ _ _ _ _ _ h=>h.elim⟩
 ·obtain ⟨b,_,rfl⟩:=List.mem_map.1 hr
  rfl
 ·rw [List.getElem?_map] at hr
  cases hb:s.data.toList[i]? with
  | none=>simp [hb] at hr
  | some b =>
    simp only [hb,Option.map_some,Option.some.injEq] at hr
    subst hr
    cases j with
    | succ j=>simp at ha
    | zero =>
      simp at ha
      subst ha
      have:(byteCells s).getD (i*1+0) default=.int .u8 b.toNat:=by
       simp only [byteCells,List.getD_eq_getElem?_getD,Nat.mul_one,Nat.add_zero,List.getElem?_map,hb]
       rfl
      rw [this]
      exact .int _ _
theorem Xrv {ei:TInfo} {t tx e:TypeId} {v:Value} {av:AV} {k:Rows→St→R} {tm:List Value} (ht:P.underlying t=some (.slice e)) (hk:(∃ e',P.underlying tx=some (.slice e'))∨P.underlying tx=some .string)
 (h:Xf8 cfg ei av st k=some res) (G:Good w wr ts tm st g) (H:VR w st.heap g v av) :
 ∃ news st1 g1 cells S f,k news st1=some res∧News P w wr ts tm st g ei.size tx v news st1 g1 cells S f:=by
 by_cases hs:∃ s,v=.string s
 ·obtain ⟨s,rfl⟩:=hs
  have hav:av=.str s∨av=.undef:=by
   cases H with
   | str=>exact .inl rfl
   | undef=>exact .inr rfl
   | ref h1=>obtain ⟨_,_,_,h2,_⟩:=G.rel.slice_of h1;cases h2
   | sub h1 hl h2=>obtain ⟨_,_,h3⟩:=h2.one;cases h3
  rcases hav with rfl | rfl
  ·simp only [Xf8] at h
   split at h
   ·rename_i hsz
    refine ⟨_,st,g,byteCells s,_,_,h,.plain G ?_ (by rw [hsz];exact Xko s)⟩
    rw [hsz,List.length_map,Array.length_toList]
    show Src P 1 tx (.string s) s.size (byteCells s) w
    exact ⟨hk,fun _=>rfl,firstCells_string s w,firstCells_string s w.drew,by rw [byteCells_length,Nat.mul_one],fun u hu=>by
     obtain ⟨_,_,rfl⟩:=List.mem_map.1 hu
     rfl⟩
   ·cases h
  ·simp [Xf8] at h
 ·obtain ⟨news,st1,g1,cells,S,f,h1,N⟩:=Xnp (tx:=t) ht (fun s e=>hs ⟨s,e⟩) h G H
  exact ⟨news,st1,g1,cells,S,f,h1,N.good,N.less,Src.kinds N.src hk,N.cells,N.apart⟩
theorem Xy9 (hT:Z2 P cfg.ty) {tys:Array TypeId} {vals:List Value} {vs:List AV} {k:AV→St→R} (h:Wn cfg slot .append tys.toList vs st k=some res) (I:Inv C ts w a st wr g) (H:VRs w st.heap g vals vs) :
 BOut P C ts w a .append tys vals.toArray k res:=by
 intro ty consts
 unfold Wn at h
 split at h
 ·rename_i hb;cases hb
 ·rename_i d s _
  cases H with
  | @cons vd _ _ _ Hd H2 =>
  cases H2 with
  | @cons vs' _ _ _ Hs H3 =>
  cases H3
  split at h
  ·rename_i t tx htys
   have htys:tys=#[t,tx]:=by rw [←Array.toList_inj];simpa using htys
   subst htys
   unfold Xq5 at h
   obtain ⟨ti,hti,h⟩:=Y1 h
   obtain ⟨du,hdu,hsh⟩:=(hT _ hti).under
   simp only at hdu hsh
   split at h
   ·rename_i e he
    rw [he] at hsh
    simp only [ShOK] at hsh
    subst hsh
    obtain ⟨hk,h⟩:=Xw2 hT h
    obtain ⟨ei,hei,h⟩:=Y1 h
    obtain ⟨hbp,h⟩:=Xy8 h
    obtain ⟨news,st1,g1,cells,S1,f,h,N⟩:=Xrv hdu hk h I.good Hs
    have hEI:=hT _ hei
    simp only at hEI
    have fin:∀ (slot':Nat) (old:Rows) (S2:BS) (st2:St) (g2:Gh),Good w wr ts a.tmps.toList st2 g2→st2.heap[slot']?.join=none→TR w true (Kr w wr false) S2 vd (.lst ei.size old) →
     (∀ k,S1 k→k<w.heap.size∧∀ r x,st2.heap[r]?.join=some x→¬g2.F r k)→(∀ k,S2 k→k<w.heap.size∧∀ r x,st2.heap[r]?.join=some x→¬g2.F r k)→(∀ k,S1 k→¬S2 k) →
     (old.length+news.length)*ei.bytes≤Yf→k (.ref slot' []) ⟨st2.env,st2.stk,put st2.heap slot' (some ⟨false,false,false,ei.size,old++news⟩)⟩=some res →
     ∃ (s:Sem Value) (v:Value) (av:AV) (w':World) (st':St) (wr':Wrs) (g':Gh),builtin .append #[t,tx] ty consts [vd,vs'].toArray=(do pure (.value (←s)))∧s.run P w=.ok v w'∧Inv C ts w' a st' wr' g'∧VR w' st'.heap g' v av∧k av st'=some res:=by
     intro slot' old S2 st2 g2 G2 hs2 T h1 h2 h12 hroom hk
     have h63:old.length+news.length≤9223372036854775807:=by
      have:(old.length+news.length)*1≤(old.length+news.length)*ei.bytes:=Nat.mul_le_mul_left _ (by omega)
      unfold Yf at hroom
      omega
     obtain ⟨v',w',wr',g',e1,e2,e3,e4⟩:=Xru hEI hdu G2 hs2 N.src T N.cells h1 h2 h12 hroom h63
     refine ⟨Builtin.append_ #[t,tx] ty #[vd,vs'],v',_,w',_,wr',g',rfl,e1,?_,e3,hk⟩
     rcases e4 with ⟨b,o,rfl,rfl,hw⟩ | ⟨ob,rfl,rfl⟩
     ·exact I.stored e2 hw
     ·have I2:Inv C ts w.drew a st2 wr g2:=⟨Good.heap (w:=w) (w':=w.drew) rfl G2,I.fr.drew,I.can,I.dom,I.nodef⟩
      exact I2.alloc e2
    have atPlace:∀ (r:Nat) (p:Path),(d=.ref r p∨∃ off len,d=.sub r p off len) →
     (Xeq st1 r p fun sz rows st=>match decide (sz=ei.size) with
      | true=>br (decide (((Zj d rows).length+news.length)*ei.bytes≤Yf)) (match p with
        | []=>V0 st r ⟨false,false,false,sz,Zj d rows++news⟩ fun st=>k (.ref r []) st
        | _=>V0 st slot ⟨false,false,false,sz,Zj d rows++news⟩ fun st=>k (.ref slot []) st) none
      | false=>none)=some res →
     ∃ (s:Sem Value) (v:Value) (av:AV) (w':World) (st':St) (wr':Wrs) (g':Gh),builtin .append #[t,tx] ty consts [vd,vs'].toArray=(do pure (.value (←s)))∧s.run P w=.ok v w'∧Inv C ts w' a st' wr' g'∧VR w' st'.heap g' v av∧k av st'=some res:=by
     intro r p hd h
     obtain ⟨v,sz,rows,S2,st2,g2,h,T⟩:=W3 h N.good
     obtain ⟨rows0,hb0,hlen0⟩:=N.less.back _ _ _ _ _ T.at_
     have tree:TR w true (Kr w wr false) S2 vd (.lst sz (Zj d rows)):=by
      rcases hd with rfl | ⟨off,len,rfl⟩
      ·cases Hd with
       | ref h1 =>
         rw [hb0] at h1
         cases h1
         exact T.tree
      ·cases Hd with
       | sub h1 hl h2 =>
         rw [hb0] at h1
         cases h1
         exact T.tree.sub (by omega) h2
     split at h
     ·rename_i hd2
      simp only [decide_eq_true_eq] at hd2
      subst hd2
      rcases Z7 h with ⟨hroom,h⟩ | ⟨_,h⟩
      ·simp only [decide_eq_true_eq] at hroom
       have a1:∀ k,S1 k→k<w.heap.size∧∀ r x,st2.heap[r]?.join=some x→¬g2.F r k:=fun k hk=>⟨(N.apart k hk).1,fun r' x' hx' hF=>by
        obtain ⟨x1,hx1,_,_,_,hf⟩:=T.less.flags r' x' hx'
        exact (N.apart k hk).2 r' x1 hx1 (hf k hF)⟩
       have a12:∀ k,S1 k→¬S2 k:=fun k hk1 hk2=>by
        obtain ⟨x1,hx1,_,hf⟩:=T.was
        exact (N.apart k hk1).2 r x1 hx1 (hf k hk2)
       split at h
       ·obtain ⟨hs2,h⟩:=W2 h
        exact fin r _ S2 st2 g2 T.good hs2 tree a1 T.apart a12 hroom h
       ·obtain ⟨hs2,h⟩:=W2 h
        exact fin slot _ S2 st2 g2 T.good hs2 tree a1 T.apart a12 hroom h
      ·cases h
     ·cases h
    have atNil:(∃ aa,vd=.slice aa 0 0)→(br (decide (news.length*ei.bytes≤Yf)) (V0 st1 slot ⟨false,false,false,ei.size,news⟩ fun st=>k (.ref slot []) st) none)=some res →
     ∃ (s:Sem Value) (v:Value) (av:AV) (w':World) (st':St) (wr':Wrs) (g':Gh),builtin .append #[t,tx] ty consts [vd,vs'].toArray=(do pure (.value (←s)))∧s.run P w=.ok v w'∧Inv C ts w' a st' wr' g'∧VR w' st'.heap g' v av∧k av st'=some res:=by
     rintro ⟨aa,rfl⟩ h
     rcases Z7 h with ⟨hroom,h⟩ | ⟨_,h⟩
     ·simp only [decide_eq_true_eq] at hroom
      obtain ⟨hs2,h⟩:=W2 h
      exact fin slot [] (fun _=>False) st1 g1 N.good hs2 .nil N.apart (fun _ h=>h.elim) (fun _ _ h=>h) (by simpa using hroom) h
     ·cases h
    cases d <;> simp only [X3d] at h <;> try (cases h;done)
    ·cases Hd
     exact atNil ⟨_,rfl⟩ h
    ·exact atPlace _ _ (.inl rfl) h
    ·exact atPlace _ _ (.inr ⟨_,_,rfl⟩) h
    ·split at h
     ·cases Hd
      exact atNil ⟨_,rfl⟩ h
     ·cases h
   ·cases h
  ·cases h
 ·rename_i hb;cases hb
 ·rename_i hb;cases hb
 ·cases h
end
end Go.Abs
namespace Go.Abs
theorem Xfg {w:World} {b:Nat} {o:Obj} (h:w.heap[b]?=some o):b<w.heap.size:=(Array.getElem?_eq_some_iff.1 h).1
theorem TR.low {w:World} {own:Bool} {K:CS} {S:BS} {v:Value} {a:AV} (h:TR w own K S v a):TR w false K (fun k=>S k∧k<w.heap.size) v a:=by
 induction h with
 | bool b=>exact .bool b
 | int k n=>exact .int k n
 | str s=>exact .str s
 | nilp=>exact .nilp
 | nilf=>exact .nilf
 | undef v=>exact .undef v
 | nil=>exact .nil
 | lst f hb hs hc hl hK0 hS0 hf hd _ ih =>
   exact .lst (fun i j k=>f i j k∧k<_) hb hs hc hl hK0 ⟨hS0,Xfg hb⟩ (fun i j k hk=>⟨hf i j k hk.1,hk.2⟩) (fun h=>by cases h) ih
theorem TR.trim {w:World} {own:Bool} {K:CS} {S:BS} {v:Value} {a:AV} (h:TR w own K S v a):TR w own K (fun k=>S k∧k<w.heap.size∧∃ q,K k q) v a:=by
 induction h with
 | bool b=>exact .bool b
 | int k n=>exact .int k n
 | str s=>exact .str s
 | nilp=>exact .nilp
 | nilf=>exact .nilf
 | undef v=>exact .undef v
 | nil=>exact .nil
 | lst f hb hs hc hl hK0 hS0 hf hd _ ih =>
   exact .lst (fun i j k=>f i j k∧k<_∧∃ q,_) hb hs hc hl hK0 ⟨hS0,Xfg hb,_,hK0.2 _ (Nat.le_refl _) (by have:=hK0.1;omega)⟩ (fun i j k hk=>⟨hf i j k hk.1,hk.2⟩)
    (fun h=>⟨fun i j hk=>(hd h).1 i j hk.1,fun i j i' j' k h1 h2=>(hd h).2 i j i' j' k h1.1 h2.1⟩) ih
def Leaf (w:World) (K:CS) (v:Value) (a:AV):Prop:=TR w false K (fun k=>k<w.heap.size) v a
theorem TR.leafOf {w:World} {own:Bool} {K:CS} {S:BS} {v:Value} {a:AV} (h:TR w own K S v a):Leaf w K v a:=h.low.mono (fun _ h=>h.2) (fun _ _ _ h=>h)
theorem Leaf.mono {w:World} {K K':CS} {v:Value} {a:AV} (h:Leaf w K v a) (hK:∀ b q,K b q→K' b q):Leaf w K' v a:=TR.mono h (fun _ h=>h) (fun b q _=>hK b q)
inductive Leaves (w:World) (K:CS):List Value→List AV→Prop
 | nil:Leaves w K [] []
 | cons {v:Value} {a:AV} {vs:List Value} {l:List AV} (h1:Leaf w K v a) (h2:Leaves w K vs l):Leaves w K (v::vs) (a::l)
theorem Leaves.mono {w:World} {K K':CS} (hK:∀ b q,K b q→K' b q):∀ {vs:List Value} {l:List AV},Leaves w K vs l→Leaves w K' vs l
 | _,_,.nil=>.nil
 | _,_,.cons h1 h2=>.cons (h1.mono hK) (Leaves.mono hK h2)
theorem Leaves.length {w:World} {K:CS}:∀ {vs:List Value} {l:List AV},Leaves w K vs l→vs.length=l.length
 | _,_,.nil=>rfl
 | _,_,.cons _ h2=>by simp [Leaves.length h2]
inductive PV (w:World) (K:CS):Value→AV→Prop
 | leaf {v:Value} {a:AV} (h:Leaf w K v a):PV w K v a
 | pv {b o:Nat} {cs:Array Value} {e:TypeId} {fz:Nat×Nat} {vs:List Value} {l:List AV} (hb:w.heap[b]?=some (.cells cs e fz)) (hs:o+l.length≤cs.size) (hK:∀ q,q<l.length→K b (o+q))
  (hv:∀ q v,vs[q]?=some v→cs[o+q]?=some v) (hl:Leaves w K vs l):PV w K (.pointer (some ⟨b,o,none⟩)) (.pv l)
inductive PVs (w:World) (K:CS):List Value→List AV→Prop
 | nil:PVs w K [] []
 | cons {v:Value} {a:AV} {vs:List Value} {l:List AV} (h1:PV w K v a) (h2:PVs w K vs l):PVs w K (v::vs) (a::l)
inductive AR (w:World) (K:CS):Value→AV→Prop
 | pv {v:Value} {a:AV} (h:PV w K v a):AR w K v a
 | agg {vs:List Value} {l:List AV} (h:Leaves w K vs l):AR w K (.agg vs.toArray) (.agg l)
 | fn {f:FuncId} {vs:List Value} {l:List AV} (h:PVs w K vs l):AR w K (.func (.func f) #[] vs.toArray) (.fn f l)
inductive ARs (w:World) (K:CS):List Value→List AV→Prop
 | nil:ARs w K [] []
 | cons {v:Value} {a:AV} {vs:List Value} {l:List AV} (h1:AR w K v a) (h2:ARs w K vs l):ARs w K (v::vs) (a::l)
theorem ARs.append {w:World} {K:CS}:∀ {vs us:List Value} {l m:List AV},ARs w K vs l→ARs w K us m→ARs w K (vs++us) (l++m)
 | _,_,_,_,.nil,h2=>h2
 | _,_,_,_,.cons h1 h3,h2=>.cons h1 (ARs.append h3 h2)
theorem PVs.args {w:World} {K:CS}:∀ {vs:List Value} {l:List AV},PVs w K vs l→ARs w K vs l
 | _,_,.nil=>.nil
 | _,_,.cons h1 h2=>.cons (.pv h1) (PVs.args h2)
inductive T0s (w:World) (own:Bool) (K:CS):List Value→List AV→List BS→Prop
 | nil:T0s w own K [] [] []
 | cons {v:Value} {a:AV} {S:BS} {vs:List Value} {l:List AV} {Ss:List BS} (h1:TR w own K S v a) (h2:own=true→∀ S'∈Ss,∀ k,S k→¬S' k) (h3:T0s w own K vs l Ss):T0s w own K (v::vs) (a::l) (S::Ss)
inductive T1 (w:World) (own:Bool) (K:CS):Value→AV→List BS→Prop
 | one {v:Value} {a:AV} {S:BS} (h:TR w own K S v a):T1 w own K v a [S]
 | agg {vs:List Value} {l:List AV} {Ss:List BS} (h:T0s w own K vs l Ss):T1 w own K (.agg vs.toArray) (.agg l) Ss
inductive T1s (w:World) (own:Bool) (K:CS):List Value→List AV→List BS→Prop
 | nil:T1s w own K [] [] []
 | cons {v:Value} {a:AV} {vs:List Value} {l:List AV} {S1 Ss:List BS} (h1:T1 w own K v a S1) (h2:own=true→∀ S∈S1,∀ S'∈Ss,∀ k,S k→¬S' k) (h3:T1s w own K vs l Ss):T1s w own K (v::vs) (a::l) (S1++Ss)
inductive T2 (w:World) (own:Bool) (K:CS):Value→AV→List BS→Prop
 | one {v:Value} {a:AV} {Ss:List BS} (h:T1 w own K v a Ss):T2 w own K v a Ss
 | tup {vs:List Value} {l:List AV} {Ss:List BS} (h:T1s w own K vs l Ss):T2 w own K (.tuple vs.toArray) (.tup l) Ss
def PRes (w w':World) (v:Value) (a:AV):Prop :=
 ∃ Ss,T2 w' true (fun b q=>w.heap.size≤b∧w'.frozen? ⟨b,q,none⟩=false) v a Ss∧∀ S∈Ss,∀ k,S k→w.heap.size≤k∧k<w'.heap.size
def Any:CS:=fun _ _=>True
def Xfh:CS:=fun _ _=>False
def FnOK (P : Program) (f : FuncId) : Prop := ∃ fn, P.funcs[f]? = some fn ∧ (fn.name == "runtime.NumGoroutine") = false ∧ fn.body.isNone = false
def Xza (P:Program) (E:Env) (cfg:Cfg) (pure:FuncId→List AV→R):Prop:=∀ (f:FuncId) (args:List AV) (res:Res),cfg.mode f=0→pure f args=some res→FnOK P f ∧
 ∀ (w:World) (vals:List Value),E.J w→E.N≤w.heap.size→ARs w Any vals args→Calls P f vals.toArray w fun e w'=>∃ v,e=.returned v∧Fr w Xfh w'∧PRes w w' v res.val
def X55 (P:Program) (E:Env) (inl:FuncId→List AV→St→(AV→St→R)→R):Prop:=∀ (f:FuncId) (args:List AV) (st:St) (k:AV→St→R) (res:Res),inl f args st k=some res→FnOK P f ∧
 ∀ (C:Ctx) (ts:List (List Value)) (w:World) (a:Act) (wr:Wrs) (g:Gh) (vals:List Value),C.E=E→Inv C ts w a st wr g→VRs w st.heap g vals args →
  Calls P f vals.toArray w fun e w'=>∃ v av st' wr' g',e=.returned v∧Inv C ts w' a st' wr' g'∧VR w' st'.heap g' v av∧k av st'=some res
def Kw (w:World) (W:CS):CS:=fun b q=>W b q∧w.frozen? ⟨b,q,none⟩=false
def IoW (b o n:Nat) (Ss:List BS) (W:CS):CS:=fun b' q=>(b'=b∧o≤q∧q<o+n)∨(W b' q∧∃ S∈Ss,S b')
def Xrw (v:Value) (a:AV):Prop:=∀ (w:World) (h:Heap) (g:Gh),VR w h g v a
def IoOK (P:Program) (E:Env) (cfg:Cfg) (pure:FuncId→List AV→R):Prop:=∀ (f:FuncId) (m:Nat) (args:List AV) (res:Res),cfg.mode f=m+2→pure f args=some res→FnOK P f ∧
 ∀ (va cs vb:List AV),args=va++.pv cs::vb→va.length=m→∀ (w:World) (b o:Nat) (W:CS) (arr:Array Value) (e:TypeId) (fz:Nat×Nat) (us vala valb:List Value) (Ss Sa Sb:List BS),
  E.J w→E.N≤w.heap.size→(∀ b q,W b q→E.N≤b) →
  w.heap[b]?=some (.cells arr e fz)→o+cs.length≤arr.size→(∀ q u,us[q]?=some u→arr[o+q]?=some u)→(∀ q,o≤q→q<o+cs.length→Kw w W b q) →
  T0s w true (Kw w W) us cs Ss→(∀ S∈Ss,∀ k,S k→k<w.heap.size∧k≠b)→T1s w false Any vala va Sa→T1s w false Any valb vb Sb →
  (∀ S,S∈Sa∨S∈Sb→∀ k,S k→k<w.heap.size∧k≠b∧∀ S'∈Ss,¬S' k) →
  Calls P f (vala++.pointer (some ⟨b,o,none⟩)::valb).toArray w fun en w'=>∃ v us' Ss' arr',en=.returned v∧Xrw v res.val∧Fr w (IoW b o cs.length Ss W) w'∧w'.heap[b]?=some (.cells arr' e fz) ∧
   (∀ q u,us'[q]?=some u→arr'[o+q]?=some u)∧T0s w' true (fun b' q=>(w.heap.size≤b'∨W b' q)∧w'.frozen? ⟨b',q,none⟩=false) us' res.out Ss' ∧
   ∀ S∈Ss',∀ k,S k→k≠b∧k<w'.heap.size∧(k<w.heap.size→∃ S0∈Ss,S0 k)
def X3l (P:Program) (E:Env) (cfg:Cfg) (pure:FuncId→List AV→R):Prop:=∀ (f:FuncId) (m:Nat) (args:List AV) (res:Res),cfg.mode f=m+2→pure f args=some res→FnOK P f ∧
 ∀ (va cs vb:List AV) (bl:AV),args=va++.pv (.tup [bl]::cs)::vb→va.length=m→∀ (w:World) (b o:Nat) (W:CS) (arr:Array Value) (e:TypeId) (fz:Nat×Nat) (ub:Value) (us vala valb:List Value) (Ss Sa Sb Sl:List BS),
  E.J w→E.N≤w.heap.size→(∀ b q,W b q→E.N≤b) →
  w.heap[b]?=some (.cells arr e fz)→o+(cs.length+1)≤arr.size→arr[o]?=some ub→(∀ q u,us[q]?=some u→arr[o+1+q]?=some u)→(∀ q,o≤q→q<o+(cs.length+1)→Kw w W b q) →
  T0s w true (Kw w W) us cs Ss→(∀ S∈Ss,∀ k,S k→k<w.heap.size∧k≠b)→T1s w false Any vala va Sa→T1s w false Any valb vb Sb→T1s w false Any [ub] [bl] Sl →
  (∀ S,S∈Sa∨S∈Sb∨S∈Sl→∀ k,S k→k<w.heap.size∧k≠b∧∀ S'∈Ss,¬S' k) →
  Calls P f (vala++.pointer (some ⟨b,o,none⟩)::valb).toArray w fun en w'=>∃ v us' Ss' arr',en=.returned v∧Xrw v res.val∧Fr w (IoW b o (cs.length+1) Ss W) w'∧w'.heap[b]?=some (.cells arr' e fz)∧arr'[o]?=some ub ∧
   (∀ q u,us'[q]?=some u→arr'[o+1+q]?=some u)∧T0s w' true (fun b' q=>(w.heap.size≤b'∨W b' q)∧w'.frozen? ⟨b',q,none⟩=false) us' res.out Ss' ∧
   ∀ S∈Ss',∀ k,S k→k≠b∧k<w'.heap.size∧(k<w.heap.size→∃ S0∈Ss,S0 k)
structure LevOK (P:Program) (E:Env) (cfg:Cfg) (lv:Lev):Prop where
 pure:Xza P E cfg lv.pure
 inl:X55 P E lv.inl
 io:IoOK P E cfg lv.pure
 io2:X3l P E cfg lv.pure
theorem Xqe {P:Program} {f:FuncId} (h:FnOK P f) (args:Array Value) (w:World):(callFunc f args).run P w=.ok (.enter f args) w:=by
 obtain ⟨fn,h1,h2,h3⟩:=h
 unfold callFunc
 simp only [Sem.run_bind,run_program,Result.andThen_ok,h1,h2,h3]
 rfl
end Go.Abs
namespace Go.Abs
section
variable {P:Program} {cfg:Cfg} {w:World} {wr:Wrs} {hp:Heap} {g:Gh} {res:Res}
theorem VR.closed (RL:Rel w wr hp g) {esz:Nat} {v:Value} {a:AV} {k:AV→R} (h:cl0 hp esz a k=some res) (H:VR w hp g v a):∃ a',k a'=some res∧Leaf w Any v a':=by
 have lst:∀ (r:Nat) (p:Path) (x:Root) (v0:Value) (sz:Nat) (rows:Rows),Yq w hp g r p=some (v0,sz,rows)→hp[r]?.join=some x→¬(x.box=true∧p=[])→Leaf w Any v0 (.lst sz rows)∧∃ S K,TR w (!x.ro) K S v0 (.lst sz rows):=by
  intro r p x v0 sz rows hw hx hn
  obtain ⟨x',hx',hr,hv⟩:=Yr hw
  rw [hx] at hx'
  cases hx'
  obtain ⟨v',hw',hc⟩:=RL.walks hx hr hv
  rw [hw] at hw'
  cases hw'
  rcases hc with ⟨h1,h2⟩ | ⟨S,ht,_⟩
  ·exact absurd ⟨h2,h1⟩ hn
  ·exact ⟨ht.leafOf.mono (fun _ _ _=>trivial),_,_,ht⟩
 cases H <;> simp only [cl0] at h <;> try (cases h;done)
 ·exact ⟨_,h,TR.bool _⟩
 ·exact ⟨_,h,TR.int _ _⟩
 ·exact ⟨_,h,TR.str _⟩
 ·exact ⟨_,h,TR.nilp⟩
 ·exact ⟨_,h,TR.nilf⟩
 ·exact ⟨_,h,TR.nil⟩
 ·rename_i r p sz rows h1
  obtain ⟨x,sz',rows',hres,h⟩:=Ul h
  obtain ⟨x',hx',hr',_⟩:=Yr h1
  simp only [Abs.res,hx',hr',Option.some.injEq,Prod.mk.injEq] at hres
  obtain ⟨rfl,rfl,rfl⟩:=hres
  have main:¬(x'.box=true∧p=[])→k (.lst sz rows)=some res→∃ a',k a'=some res∧Leaf w Any v a':=fun hn h=>⟨_,h,(lst r p x' v _ _ h1 hx' hn).1⟩
  split at h
  ·cases h
  ·rename_i hn _ _
   exact main (fun e=>hn e.1 e.2) h
 ·rename_i r p off len sz rows v0 h1 hl h2
  obtain ⟨x,sz',rows',hres,h⟩:=Ul h
  obtain ⟨x',hx',hr',_⟩:=Yr h1
  simp only [Abs.res,hx',hr',Option.some.injEq,Prod.mk.injEq] at hres
  obtain ⟨rfl,rfl,rfl⟩:=hres
  have main:¬(x'.box=true∧p=[])→k (.lst sz ((rows.drop off).take len))=some res→∃ a',k a'=some res∧Leaf w Any v a':=fun hn h=>⟨_,h,TR.sub (lst r p x' v0 _ _ h1 hx' hn).1 hl h2⟩
  split at h
  ·cases h
  ·rename_i hn _ _
   exact main (fun e=>hn e.1 e.2) h
 ·exact ⟨_,h,TR.nil⟩
theorem VRs.closed (RL:Rel w wr hp g) {esz:Nat}:∀ {vs:List Value} {l:List AV} {k:List AV→R},clL0 hp esz l k=some res→VRs w hp g vs l→∃ l',k l'=some res∧Leaves w Any vs l'
 | _,_,k,h,.nil=>⟨[],h,.nil⟩
 | _,_,k,h,.cons h1 h2=>by
   simp only [clL0] at h
   obtain ⟨a',h,e1⟩:=VR.closed RL h h1
   obtain ⟨l',h,e2⟩:=VRs.closed RL h h2
   exact ⟨_,h,.cons e1 e2⟩
theorem Xh3 (RL:Rel w wr hp g) {r:Nat} {p:Path} {b o n c sz:Nat} {rows:Rows} {i:Nat} {row:List AV} (hw:Yq w hp g r p=some (.slice (some ⟨b,o,none⟩) n c,sz,rows)) (hi:rows[i]?=some row) :
 ∀ (l:List AV) (j:Nat) (k:List AV→R),clL0 hp 0 l k=some res→(∀ q a,l[q]?=some a→row[j+q]?=some a) →
 ∃ us l',k l'=some res∧us.length=l.length∧(∀ q u,us[q]?=some u→w.cell? ⟨b,o+i*sz+j+q,none⟩=some u)∧Leaves w Any us l'
 | [],j,k,h,_=>⟨[],[],h,rfl,fun q u hu=>by simp at hu,.nil⟩
 | a::l,j,k,h,hl=>by
   simp only [clL0] at h
   obtain ⟨b',o',n',c',u,hv,hu,_,hcase⟩:=RL.cell hw hi (hl 0 a rfl)
   simp only [Value.slice.injEq,Option.some.injEq,Addr.mk.injEq] at hv
   obtain ⟨⟨rfl,rfl,_⟩,rfl,rfl⟩:=hv
   have one:∃ a',(clL0 hp 0 l fun l=>k (a'::l))=some res∧Leaf w Any u a':=by
    rcases hcase with ⟨sz',rows',rfl,hw'⟩ | ⟨_,hv⟩
    ·refine ⟨_,h,?_⟩
     obtain ⟨x',hx',hr,hvv⟩:=Yr hw'
     obtain ⟨v',hw2,hc⟩:=RL.walks hx' hr hvv
     rw [hw'] at hw2
     cases hw2
     rcases hc with ⟨h1,_⟩ | ⟨S,ht,_⟩
     ·simp at h1
     ·exact ht.leafOf.mono (fun _ _ _=>trivial)
    ·exact VR.closed RL h hv
   obtain ⟨a',h,e1⟩:=one
   obtain ⟨us,l',h,e2,e3,e4⟩:=Xh3 RL hw hi l (j+1) _ h (fun q a ha=>by rw [show j+1+q=j+(q+1) by omega];exact hl (q+1) a (by simpa using ha))
   refine ⟨u::us,a'::l',h,by simp [e2],fun q u' hu'=>?_,.cons e1 e4⟩
   cases q with
   | zero=>simp at hu';subst hu';exact hu
   | succ q =>
     have:=e3 q u' (by simpa using hu')
     rwa [show o+i*sz+j+(q+1)=o+i*sz+(j+1)+q by omega]
theorem Xon {b q:Nat} {u:Value} (h:w.cell? ⟨b,q,none⟩=some u):∃ cs e fz,w.heap[b]?=some (.cells cs e fz)∧cs[q]?=some u:=by
 simp only [World.cell?] at h
 split at h
 ·rename_i cs e fz hb
  exact ⟨cs,e,fz,hb,h⟩
 ·cases h
theorem Xoo (RL:Rel w wr hp g) {n:Nat} {v:Value} {a:AV} {k:AV→R} (h:clP hp n a k=some res) (H:VR w hp g v a):∃ a',k a'=some res∧PV w Any v a':=by
 cases H <;> simp only [clP] at h <;> try (cases h;done)
 ·exact ⟨_,h,.leaf TR.nilp⟩
 ·rename_i r p i j sz rows b o n' c' h1
  split at h
  ·cases h
  ·rename_i n
   obtain ⟨x,sz',rows',hres,h⟩:=Ul h
   obtain ⟨x',hx',hr',_⟩:=Yr h1
   simp only [Abs.res,hx',hr',Option.some.injEq,Prod.mk.injEq] at hres
   obtain ⟨rfl,rfl,rfl⟩:=hres
   obtain ⟨row,hi,h⟩:=Ur h
   obtain ⟨hj,h⟩:=Xga h
   obtain ⟨hn,h⟩:=Xvi h
   obtain ⟨us,l',h,e2,e3,e4⟩:=Xh3 RL h1 hi _ j _ h (fun q a ha=>by
    rw [List.getElem?_take] at ha
    split at ha
    ·rw [List.getElem?_drop] at ha
     exact ha
    ·cases ha)
   refine ⟨_,h,?_⟩
   have hlen:us.length=n+1:=by rw [e2];simp at hn ⊢;omega
   have hl':l'.length=n+1:=by rw [←e4.length];exact hlen
   have h0:us[0]?=some us[0]:=List.getElem?_eq_getElem _
   obtain ⟨cs,e,fz,hb,_⟩:=Xon (e3 0 _ h0)
   have hcs:∀ q v,us[q]?=some v→cs[o+i*sz+j+q]?=some v:=fun q v hv=>by
    have:=e3 q v hv
    rwa [Wj hb] at this
   have hlast:=hcs n us[n] (List.getElem?_eq_getElem _)
   have:=(Array.getElem?_eq_some_iff.1 hlast).1
   exact .pv hb (by omega) (fun _ _=>trivial) hcs e4
theorem Xgc (RL:Rel w wr hp g):∀ {vs:List Value} {l:List AV} {k:List AV→R},clC hp l k=some res→VRs w hp g vs l→∃ l',k l'=some res∧PVs w Any vs l'
 | _,[],k,h,.nil=>⟨[],h,.nil⟩
 | _,a::l,k,h,.cons h1 h2=>by
   by_cases hp0:∃ r p i j,a=.ptr r p i j
   ·obtain ⟨r,p,i,j,rfl⟩:=hp0
    simp only [clC] at h
    split at h
    ·obtain ⟨_,_,_,_,h⟩:=Ul h
     obtain ⟨a',h,e1⟩:=Xoo RL h h1
     obtain ⟨l',h,e2⟩:=Xgc RL h h2
     exact ⟨_,h,.cons e1 e2⟩
    ·cases h
   ·have h:(cl0 hp 0 a fun v=>clC hp l fun l=>k (v::l))=some res:=by
     cases a <;> first | exact h | exact absurd ⟨_,_,_,_,rfl⟩ hp0
    obtain ⟨a',h,e1⟩:=VR.closed RL h h1
    obtain ⟨l',h,e2⟩:=Xgc RL h h2
    exact ⟨_,h,.cons (.leaf e1) e2⟩
theorem Xw3 (RL:Rel w wr hp g) {t:TypeId} {v:Value} {a:AV} {k:AV→R} (h:cl1 cfg hp t a k=some res) (H:VR w hp g v a):∃ a',k a'=some res∧AR w Any v a':=by
 have plain:(U6 cfg t fun esz=>cl0 hp esz a k)=some res→∃ a',k a'=some res∧AR w Any v a':=by
  intro h
  obtain ⟨esz,h⟩:=Xch h
  obtain ⟨a',h,e1⟩:=VR.closed RL h H
  exact ⟨a',h,.pv (.leaf e1)⟩
 cases H with
 | agg h1 =>
   simp only [cl1] at h
   obtain ⟨l',h,e⟩:=VRs.closed RL h h1
   exact ⟨_,h,.agg e⟩
 | fn h1 =>
   simp only [cl1] at h
   obtain ⟨l',h,e⟩:=Xgc RL h h1
   exact ⟨_,h,.fn e⟩
 | ptr h1 =>
   simp only [cl1] at h
   obtain ⟨x,_,h⟩:=Y1 h
   split at h
   ·obtain ⟨y,_,h⟩:=Y1 h
    obtain ⟨a',h,e1⟩:=Xoo RL h (.ptr h1)
    exact ⟨_,h,.pv e1⟩
   ·cases h
 | _=>exact plain h
theorem Xef (RL:Rel w wr hp g):∀ {ts:List TypeId} {vs:List Value} {l:List AV} {k:List AV→R},Qu cfg hp ts l k=some res→VRs w hp g vs l→∃ l',k l'=some res∧ARs w Any vs l'
 | [],_,_,k,h,.nil=>⟨[],h,.nil⟩
 | [],_,_,k,h,.cons _ _=>by simp [Qu] at h
 | t::ts,_,_,k,h,.nil=>by simp [Qu] at h
 | t::ts,_,_,k,h,.cons h1 h2=>by
   simp only [Qu] at h
   obtain ⟨a',h,e1⟩:=Xw3 RL h h1
   obtain ⟨l',h,e2⟩:=Xef RL h h2
   exact ⟨_,h,.cons e1 e2⟩
end
end Go.Abs
namespace Go.Abs
section
variable {w:World} {res:Res}
inductive TRs (w:World) (own:Bool) (K:CS):List Value→List AV→List BS→Prop
 | nil:TRs w own K [] [] []
 | cons {v:Value} {a:AV} {S:BS} {vs:List Value} {l:List AV} {Ss:List BS} (h1:TR w own K S v a) (h2:TRs w own K vs l Ss):TRs w own K (v::vs) (a::l) (S::Ss)
theorem TRs.append {own:Bool} {K:CS}:∀ {vs us:List Value} {l m:List AV} {Ss Rs:List BS},TRs w own K vs l Ss→TRs w own K us m Rs→TRs w own K (vs++us) (l++m) (Ss++Rs)
 | _,_,_,_,_,_,.nil,h2=>h2
 | _,_,_,_,_,_,.cons h1 h3,h2=>.cons h1 (TRs.append h3 h2)
theorem TRs.get {own:Bool} {K:CS}:∀ {vs:List Value} {l:List AV} {Ss:List BS} {j:Nat} {a:AV} {v:Value},TRs w own K vs l Ss→l[j]?=some a→vs[j]?=some v→∃ S,Ss[j]?=some S∧TR w own K S v a
 | _,_,_,0,_,_,.cons h1 _,ha,hv=>by simp at ha hv;subst ha hv;exact ⟨_,rfl,h1⟩
 | _,_,_,j+1,_,_,.cons _ h2,ha,hv=>by
   obtain ⟨S,e1,e2⟩:=TRs.get (j:=j) h2 (by simpa using ha) (by simpa using hv)
   exact ⟨S,by simpa using e1,e2⟩
 | _,_,_,0,_,_,.nil,ha,_=>by simp at ha
 | _,_,_,j+1,_,_,.nil,ha,_=>by simp at ha
theorem TRs.len {own:Bool} {K:CS}:∀ {vs:List Value} {l:List AV} {Ss:List BS},TRs w own K vs l Ss→vs.length=l.length∧Ss.length=l.length
 | _,_,_,.nil=>⟨rfl,rfl⟩
 | _,_,_,.cons _ h2=>by have:=TRs.len h2;simp [this.1,this.2]
def Xg9 (Ss:List BS):Prop:=Ss.Pairwise fun S S'=>∀ k,S k→¬S' k
theorem T0s.aparts {K:CS}:∀ {vs:List Value} {l:List AV} {Ss:List BS},T0s w true K vs l Ss→Xg9 Ss
 | _,_,_,.nil=>List.Pairwise.nil
 | _,_,_,.cons _ h2 h3=>List.Pairwise.cons (h2 rfl) (T0s.aparts h3)
theorem T1.aparts {K:CS} {v:Value} {a:AV} {Ss:List BS} (h:T1 w true K v a Ss):Xg9 Ss:=by
 cases h with
 | one=>exact List.pairwise_singleton _ _
 | agg h=>exact h.aparts
theorem T1s.aparts {K:CS}:∀ {vs:List Value} {l:List AV} {Ss:List BS},T1s w true K vs l Ss→Xg9 Ss
 | _,_,_,.nil=>List.Pairwise.nil
 | _,_,_,.cons h1 h2 h3=>List.pairwise_append.2 ⟨h1.aparts,T1s.aparts h3,fun S hS S' hS'=>h2 rfl S hS S' hS'⟩
theorem T2.aparts {K:CS} {v:Value} {a:AV} {Ss:List BS} (h:T2 w true K v a Ss):Xg9 Ss:=by
 cases h with
 | one h=>exact h.aparts
 | tup h=>exact h.aparts
def Nm (slot:Nat) (row:List AV) (G:List Value) (v:Value) (av:AV):Prop:=∀ (w:World) (h:Heap) (g:Gh) (row':List AV) (G':List Value),row <+: row'→G <+: G' →
 (row≠[]→(∃ ro box sz,h[slot]?.join=some ⟨ro,true,box,sz,[row']⟩)∧g.G slot=G')→VR w h g v av
inductive Nms (slot:Nat) (row:List AV) (G:List Value):List Value→List AV→Prop
 | nil:Nms slot row G [] []
 | cons {v:Value} {a:AV} {vs:List Value} {l:List AV} (h1:Nm slot row G v a) (h2:Nms slot row G vs l):Nms slot row G (v::vs) (a::l)
theorem Nm.more {slot:Nat} {row rX:List AV} {G gX:List Value} {v:Value} {av:AV} (h:Nm slot row G v av):Nm slot (row++rX) (G++gX) v av :=
 fun w hh g row' G' h1 h2 h3=>h w hh g row' G' ((List.prefix_append _ _).trans h1) ((List.prefix_append _ _).trans h2) (fun hn=>h3 (by simp [hn]))
theorem Nms.more {slot:Nat} {row rX:List AV} {G gX:List Value}:∀ {vs:List Value} {l:List AV},Nms slot row G vs l→Nms slot (row++rX) (G++gX) vs l
 | _,_,.nil=>.nil
 | _,_,.cons h1 h2=>.cons h1.more (Nms.more h2)
theorem Nms.vrs {slot:Nat} {row row':List AV} {G G':List Value} {h:Heap} {g:Gh} (h1:row <+: row') (h2:G <+: G') (h3:row≠[]→(∃ ro box sz,h[slot]?.join=some ⟨ro,true,box,sz,[row']⟩)∧g.G slot=G') :
 ∀ {vs:List Value} {l:List AV},Nms slot row G vs l→VRs w h g vs l
 | _,_,.nil=>.nil
 | _,_,.cons e1 e2=>.cons (e1 w h g row' G' h1 h2 h3) (Nms.vrs h1 h2 h3 e2)
theorem Xh4 {l:List AV} {v:AV} {k:Nat→List AV→R} (h:addK l v k=some res):k l.length (l++[v])=some res:=by
 induction l generalizing k with
 | nil=>exact h
 | cons a l ih=>simpa using ih h
structure Op (w:World) (own:Bool) (K:CS) (slot:Nat) (row:List AV) (Ss:List BS) (rX:List AV) (gX:List Value) (SX:List BS):Prop where
 trees:TRs w own K gX rX SX
 sub:SX.Sublist Ss
theorem Xop {own:Bool} {K:CS} {S:BS} {slot:Nat} {v:Value} {a:AV} {row:List AV} {k:AV→List AV→R} (h:op0 slot a row k=some res) (T:TR w own K S v a) :
 ∃ av rX gX SX,k av (row++rX)=some res∧Op w own K slot row [S] rX gX SX∧∀ G:List Value,G.length=row.length→Nm slot (row++rX) (G++gX) v av:=by
 have leaf:∀ a',a'=a→(∀ sz rows,a≠.lst sz rows)→k a' row=some res→∃ av rX gX SX,k av (row++rX)=some res∧Op w own K slot row [S] rX gX SX∧∀ G:List Value,G.length=row.length→Nm slot (row++rX) (G++gX) v av:=by
  rintro a' rfl hn h
  exact ⟨a',[],[],[],by simpa using h,⟨.nil,by simp⟩,fun G _ w' hh g row' G' _ _ _=>T.leafVR w' hh g hn⟩
 cases a <;> simp only [op0] at h <;> try (cases h;done)
 case lst sz rows =>
  have h:=Xh4 h
  refine ⟨_,[.lst sz rows],[v],[S],h,⟨.cons T .nil,List.Sublist.refl _⟩,fun G hG w' hh g row' G' h1 h2 h3=>?_⟩
  obtain ⟨⟨ro,box,sz0,hr⟩,hg⟩:=h3 (by simp)
  have e1:row'[row.length]?=some (.lst sz rows):=by
   obtain ⟨t,rfl⟩:=h1
   simp [List.getElem?_append]
  have e2:G'[row.length]?=some v:=by
   obtain ⟨t,rfl⟩:=h2
   rw [←hG]
   simp [List.getElem?_append]
  refine .ref (sz:=sz) (rows:=rows) ?_
  rw [Y2 hr]
  simp only [Uu,List.getElem?_cons_zero,e1,hg,e2,walk]
 all_goals exact leaf _ rfl (fun _ _ e=>by cases e) h
theorem Xmi {own:Bool} {K:CS} {slot:Nat}:∀ {vs:List Value} {l:List AV} {Ss:List BS} {row:List AV} {k:List AV→List AV→R},opL0 slot l row k=some res→T0s w own K vs l Ss →
 ∃ avs rX gX SX,k avs (row++rX)=some res∧Op w own K slot row Ss rX gX SX∧∀ G:List Value,G.length=row.length→Nms slot (row++rX) (G++gX) vs avs
 | _,_,_,row,k,h,.nil=>⟨[],[],[],[],by simpa [opL0] using h,⟨.nil,List.Sublist.refl _⟩,fun _ _=>.nil⟩
 | _,_,_,row,k,h,.cons h1 _ h3=>by
   simp only [opL0] at h
   obtain ⟨av,rX,gX,SX,h,O1,n1⟩:=Xop h h1
   obtain ⟨avs,rY,gY,SY,h,O2,n2⟩:=Xmi h h3
   refine ⟨av::avs,rX++rY,gX++gY,SX++SY,by simpa [List.append_assoc] using h,⟨O1.trees.append O2.trees,by simpa using O1.sub.append O2.sub⟩,fun G hG=>?_⟩
   have hl:=O1.trees.len.1
   rw [←List.append_assoc,←List.append_assoc]
   exact .cons (n1 G hG).more (n2 (G++gX) (by simp [hG,hl]))
theorem Xoq {own:Bool} {K:CS} {slot:Nat} {v:Value} {a:AV} {Ss:List BS} {row:List AV} {k:AV→List AV→R} (h:op1 slot a row k=some res) (T:T1 w own K v a Ss) :
 ∃ av rX gX SX,k av (row++rX)=some res∧Op w own K slot row Ss rX gX SX∧∀ G:List Value,G.length=row.length→Nm slot (row++rX) (G++gX) v av:=by
 cases T with
 | one T =>
   have h:op0 slot a row k=some res:=by cases T <;> exact h
   exact Xop h T
 | agg T =>
   simp only [op1] at h
   obtain ⟨avs,rX,gX,SX,h,O,n⟩:=Xmi h T
   exact ⟨_,rX,gX,SX,h,O,fun G hG w' hh g row' G' h1 h2 h3=>.agg (Nms.vrs h1 h2 h3 (n G hG))⟩
theorem Qi {own:Bool} {K:CS} {slot:Nat}:∀ {vs:List Value} {l:List AV} {Ss:List BS} {row:List AV} {k:List AV→List AV→R},opL1 slot l row k=some res→T1s w own K vs l Ss →
 ∃ avs rX gX SX,k avs (row++rX)=some res∧Op w own K slot row Ss rX gX SX∧∀ G:List Value,G.length=row.length→Nms slot (row++rX) (G++gX) vs avs
 | _,_,_,row,k,h,.nil=>⟨[],[],[],[],by simpa [opL1] using h,⟨.nil,List.Sublist.refl _⟩,fun _ _=>.nil⟩
 | _,_,_,row,k,h,.cons h1 _ h3=>by
   simp only [opL1] at h
   obtain ⟨av,rX,gX,SX,h,O1,n1⟩:=Xoq h h1
   obtain ⟨avs,rY,gY,SY,h,O2,n2⟩:=Qi h h3
   refine ⟨av::avs,rX++rY,gX++gY,SX++SY,by simpa [List.append_assoc] using h,⟨O1.trees.append O2.trees,O1.sub.append O2.sub⟩,fun G hG=>?_⟩
   have hl:=O1.trees.len.1
   rw [←List.append_assoc,←List.append_assoc]
   exact .cons (n1 G hG).more (n2 (G++gX) (by simp [hG,hl]))
theorem Xw4 {own:Bool} {K:CS} {slot:Nat} {v:Value} {a:AV} {Ss:List BS} {row:List AV} {k:AV→List AV→R} (h:op2 slot a row k=some res) (T:T2 w own K v a Ss) :
 ∃ av rX gX SX,k av (row++rX)=some res∧Op w own K slot row Ss rX gX SX∧∀ G:List Value,G.length=row.length→Nm slot (row++rX) (G++gX) v av:=by
 cases T with
 | one T =>
   have h:op1 slot a row k=some res:=by
    cases T with
    | one T=>cases T <;> exact h
    | agg T=>exact h
   exact Xoq h T
 | tup T =>
   simp only [op2] at h
   obtain ⟨avs,rX,gX,SX,h,O,n⟩:=Qi h T
   exact ⟨_,rX,gX,SX,h,O,fun G hG w' hh g row' G' h1 h2 h3=>.tup (Nms.vrs h1 h2 h3 (n G hG))⟩
def wrUp (wr:Wrs) (n:Nat):Wrs:=⟨fun b q=>wr b q∨n≤b,wr.dom⟩
theorem Xha (wr:Wrs) (n:Nat):wr.Agree n (wrUp wr n):=⟨rfl,fun b q hb=>⟨fun h=>h.resolve_right (by omega),fun h=>.inl h⟩⟩
theorem Good.grow {w w':World} {wr:Wrs} {ts:List (List Value)} {tm:List Value} {st:St} {g:Gh} (G:Good w wr ts tm st g) (hsz:w.heap.size≤w'.heap.size) (hw:∀ k,k<w.heap.size→w'.heap[k]?=w.heap[k]?):Good w' wr ts tm st g:=by
 have hw':∀ r x k,st.heap[r]?.join=some x→g.F r k→w'.heap[k]?=w.heap[k]?:=fun r x k hx hF=>hw k (G.rel.low r x k hx hF)
 have keeps:Vf (fun _ _=>True) w st.heap g w' st.heap g:=fun r p v sz rows _ hq=>⟨rows,by
  rw [Xao (wr:=wr) (fun x hx=>G.rel.root r x hx) rfl ⟨rfl,rfl⟩ (fun x k hx hF=>hw' r x k hx hF)];exact hq,rfl⟩
 refine G.keep (Xdn.all (fun _ _=>trivial) st) keeps (G.rel.change (r:=st.heap.length) (X:=none) (Xcd.all (fun _ _=>trivial) _) keeps (fun r'=>?_) hsz (fun r' x' k _ hx hF=>hw' r' x' k hx hF) (fun _ _=>⟨rfl,rfl,rfl⟩)
  (fun x hx=>by cases hx) (fun x hx=>by cases hx) (fun x hx=>by cases hx))
 by_cases e:r'=st.heap.length
 ·subst e;rw [if_pos rfl];simp
 ·rw [if_neg e]
theorem Fr.trans {w0 w1 w2:World} {wr0:CS} (A:Fr w0 wr0 w1) (B:Fr w1 Xfh w2):Fr w0 wr0 w2:=by
 refine ⟨B.os.trans A.os,B.tape.trans A.tape,B.output.trans A.output,Nat.le_trans A.size B.size,fun b hb hn=>?_,fun b cs e fz hb=>?_⟩
 ·rw [B.block b (Nat.lt_of_lt_of_le hb A.size) (fun _ h=>h)]
  exact A.block b hb hn
 ·obtain ⟨cs1,h1,h2,h3⟩:=A.cells b cs e fz hb
  obtain ⟨cs2,h4,h5,h6⟩:=B.cells b cs1 e fz h1
  exact ⟨cs2,h4,h5.trans h2,fun q hq=>(h6 q (fun h=>h)).trans (h3 q hq)⟩
end
section
variable {C:Ctx} {ts:List (List Value)} {w w':World} {a:Act} {st:St} {wr:Wrs} {g:Gh} {res:Res} {slot:Nat}
theorem Inv.after (I:Inv C ts w a st wr g) (F:Fr w Xfh w'):Inv C ts w' a st (wrUp wr w.heap.size) g :=
 ⟨(I.good.wr (Xha wr _)).grow F.size (fun k hk=>F.block k hk (fun _ h=>h)),I.fr.trans F,fun b q hw hb=>by
  rcases hw with hw | hw
  ·exact I.can b q hw hb
  ·have:=I.fr.size;omega,I.dom,I.nodef⟩
theorem Xqf {own:Bool} {lent:List AV} {v:Value} {av:AV} {k:AV→St→R} (h:Xjd slot own lent av st k=some res) (I:Inv C ts w a st wr g) (F:Fr w Xfh w') (T:PRes w w' v av) :
 ∃ av' st' wr' g',k av' st'=some res∧Inv C ts w' a st' wr' g'∧VR w' st'.heap g' v av':=by
 obtain ⟨Ss,T,hSs⟩:=T
 unfold Xjd at h
 obtain ⟨av',rX,gX,SX,h,O,n⟩:=Xw4 h T
 have I':=I.after F
 simp only [List.nil_append] at h
 have n:=n [] rfl
 simp only [List.nil_append] at n
 cases rX with
 | nil=>exact ⟨_,st,_,g,h,I',n w' st.heap g [] gX (List.prefix_refl _) (List.prefix_refl _) (fun h=>absurd rfl h)⟩
 | cons a0 row =>
   simp only at h
   cases own with
   | false=>cases h
   | true =>
     simp only at h
     obtain ⟨hs,h⟩:=W2 h
     have hsub:∀ S∈SX,∀ k,S k→w.heap.size≤k∧k<w'.heap.size:=fun S hS=>hSs S (O.sub.subset hS)
     have hap:Xg9 SX:=T.aparts.sublist O.sub
     obtain ⟨h1,h2⟩:=I'.good.new (w':=w') hs (Nat.le_refl _) (fun _ _=>rfl) ⟨false,true,true,0,[a0::row]⟩ Go.undef gX (fun k=>∃ S∈SX,S k)
      (fun k ⟨S,hS,hk⟩=>(hsub S hS k hk).2)
      (fun r' x' k hx' _ ⟨S,hS,hk⟩ hF=>by
       have:=I.good.rel.low r' x' k hx' hF
       have:=(hsub S hS k hk).1
       omega)
      (fun _=>by
       unfold Zu
       simp only
       refine ⟨a0::row,fOf SX,rfl,by simp only [gNew,if_true];exact O.trees.len.1,fun j k ⟨S,hj,hk⟩=>?_,fun _ j j' k ⟨S,hj,hk⟩ ⟨S',hj',hk'⟩=>?_,fun j a v ha hv=>?_⟩
       ·simp only [gNew,if_true]
        exact ⟨S,List.mem_of_getElem? hj,hk⟩
       ·obtain ⟨hl,e⟩:=List.getElem?_eq_some_iff.1 hj
        obtain ⟨hl',e'⟩:=List.getElem?_eq_some_iff.1 hj'
        rcases Nat.lt_trichotomy j j' with hlt | heq | hgt
        ·have:=(List.pairwise_iff_getElem.1 hap) j j' hl hl' hlt k (by rw [e];exact hk)
         rw [e'] at this
         exact absurd hk' this
        ·exact heq
        ·have:=(List.pairwise_iff_getElem.1 hap) j' j hl' hl hgt k (by rw [e'];exact hk')
         rw [e] at this
         exact absurd hk this
       ·simp only [gNew,if_true] at hv
        obtain ⟨S,e1,e2⟩:=O.trees.get ha hv
        exact e2.mono (fun k hk=>⟨S,e1,hk⟩) (fun b q hb hk=>⟨.inr hk.1,hk.2⟩))
     refine ⟨av',_,_,_,h,⟨h1,I'.fr,I'.can,I'.dom,I'.nodef⟩,n w' _ _ (a0::row) gX (List.prefix_refl _) (List.prefix_refl _) (fun _=>⟨⟨false,true,0,?_⟩,?_⟩)⟩
     ·rw [Wv,if_pos rfl]
     ·simp [gNew]
end
end Go.Abs
namespace Go.Abs
section
variable {w:World} {wr:Wrs} {ts:List (List Value)} {tm:List Value} {st:St} {g:Gh} {res:Res}
structure Tk (w:World) (wr:Wrs) (ts:List (List Value)) (tm:List Value) (st:St) (g:Gh) (Ss:List BS) (st':St) (g':Gh):Prop where
 good:Good w wr ts tm st' g'
 less:Less w st.heap g st'.heap g'
 apart:∀ S∈Ss,∀ k,S k→k<w.heap.size∧∀ r x,st'.heap[r]?.join=some x→¬g'.F r k
 was:∀ S∈Ss,∀ k,S k→∃ r x,st.heap[r]?.join=some x∧g.F r k
theorem Tk.none (G:Good w wr ts tm st g):Tk w wr ts tm st g [] st g:=⟨G,.refl,fun _ h=>by simp at h,fun _ h=>by simp at h⟩
theorem Tk.leaf (G:Good w wr ts tm st g):Tk w wr ts tm st g [fun _=>False] st g:=⟨G,.refl,fun S h k hk=>by simp at h;subst h;exact hk.elim,fun S h k hk=>by simp at h;subst h;exact hk.elim⟩
theorem Tk.trans {st1 st2:St} {g1 g2:Gh} {S1 S2:List BS} (A:Tk w wr ts tm st g S1 st1 g1) (B:Tk w wr ts tm st1 g1 S2 st2 g2):Tk w wr ts tm st g (S1++S2) st2 g2∧∀ S∈S1,∀ S'∈S2,∀ k,S k→¬S' k:=by
 refine ⟨⟨B.good,A.less.trans B.less,fun S hS k hk=>?_,fun S hS k hk=>?_⟩,fun S hS S' hS' k hk hk'=>?_⟩
 ·rcases List.mem_append.1 hS with hS | hS
  ·refine ⟨(A.apart S hS k hk).1,fun r x hx hF=>?_⟩
   obtain ⟨x1,hx1,_,_,_,hf⟩:=B.less.flags r x hx
   exact (A.apart S hS k hk).2 r x1 hx1 (hf k hF)
  ·exact B.apart S hS k hk
 ·rcases List.mem_append.1 hS with hS | hS
  ·exact A.was S hS k hk
  ·obtain ⟨r,x,hx,hF⟩:=B.was S hS k hk
   obtain ⟨x1,hx1,_,_,_,hf⟩:=A.less.flags r x hx
   exact ⟨r,x1,hx1,hf k hF⟩
 ·obtain ⟨r,x,hx,hF⟩:=B.was S' hS' k hk'
  exact (A.apart S hS k hk).2 r x hx hF
theorem Xor {u:Value} {a:AV} {h0:Heap} {g0:Gh} {k:AV→St→R} (h:ta0 a st k=some res) (G:Good w wr ts tm st g) (L:Less w h0 g0 st.heap g) (H:VR w h0 g0 u a) :
 ∃ a' S st' g',k a' st'=some res∧TR w true (Kr w wr false) S u a'∧Tk w wr ts tm st g [S] st' g':=by
 have one:∀ {S:BS} {v:Value} {sz:Nat} {rows:Rows} {r:Nat} {p:Path} {st':St} {g':Gh},Took w wr ts tm st g r p v sz rows S st' g'→Tk w wr ts tm st g [S] st' g':=by
  intro S v sz rows r p st' g' T
  refine ⟨T.good,T.less,fun S' h k hk=>?_,fun S' h k hk=>?_⟩
  ·simp at h;subst h;exact T.apart k hk
  ·simp at h;subst h
   obtain ⟨x,hx,_,hf⟩:=T.was
   exact ⟨r,x,hx,hf k hk⟩
 cases H <;> simp only [ta0] at h <;> try (cases h;done)
 ·exact ⟨_,_,st,g,h,.bool _,.leaf G⟩
 ·exact ⟨_,_,st,g,h,.int _ _,.leaf G⟩
 ·exact ⟨_,_,st,g,h,.str _,.leaf G⟩
 ·exact ⟨_,_,st,g,h,.nilp,.leaf G⟩
 ·rename_i r p sz rows h1
  obtain ⟨v,sz',rows',S,st',g',h,T⟩:=W3 h G
  obtain ⟨rows0,hb0,hlen0⟩:=L.back _ _ _ _ _ T.at_
  rw [h1] at hb0
  cases hb0
  exact ⟨_,S,st',g',h,T.tree,one T⟩
 ·rename_i r p off len sz rows v0 h1 hl h2
  obtain ⟨v,sz',rows',S,st',g',h,T⟩:=W3 h G
  obtain ⟨rows0,hb0,hlen0⟩:=L.back _ _ _ _ _ T.at_
  rw [h1] at hb0
  cases hb0
  exact ⟨_,S,st',g',h,T.tree.sub (by omega) h2,one T⟩
 ·exact ⟨_,_,st,g,h,.nil,.leaf G⟩
theorem Xeg {h0:Heap} {g0:Gh}:∀ {us:List Value} {l:List AV} {st:St} {g:Gh} {k:List AV→St→R},taL0 l st k=some res→Good w wr ts tm st g→Less w h0 g0 st.heap g→VRs w h0 g0 us l →
 ∃ l' Ss st' g',k l' st'=some res∧T0s w true (Kr w wr false) us l' Ss∧Tk w wr ts tm st g Ss st' g'
 | _,_,st,g,k,h,G,_,.nil=>⟨[],[],st,g,h,.nil,.none G⟩
 | _,_,st,g,k,h,G,L,.cons h1 h2=>by
   simp only [taL0] at h
   obtain ⟨a',S,st1,g1,h,e1,T1⟩:=Xor h G L h1
   obtain ⟨l',Ss,st2,g2,h,e2,T2⟩:=Xeg h T1.good (L.trans T1.less) h2
   obtain ⟨T3,hd⟩:=T1.trans T2
   exact ⟨_,_,st2,g2,h,.cons e1 (fun _=>hd S (by simp)) e2,T3⟩
theorem Xos {u:Value} {a:AV} {h0:Heap} {g0:Gh} {k:AV→St→R} (h:ta1 a st k=some res) (G:Good w wr ts tm st g) (L:Less w h0 g0 st.heap g) (H:VR w h0 g0 u a) :
 ∃ a' Ss st' g',k a' st'=some res∧T1 w true (Kr w wr false) u a' Ss∧Tk w wr ts tm st g Ss st' g':=by
 by_cases hag:∃ cs,a=.agg cs
 ·obtain ⟨cs,rfl⟩:=hag
  cases H with
  | agg H =>
    simp only [ta1] at h
    obtain ⟨l',Ss,st',g',h,e,T⟩:=Xeg h G L H
    exact ⟨_,Ss,st',g',h,.agg e,T⟩
 ·have h:ta0 a st k=some res:=by
   cases a <;> first | exact h | exact absurd ⟨_,rfl⟩ hag
  obtain ⟨a',S,st',g',h,e,T⟩:=Xor h G L H
  exact ⟨_,_,st',g',h,.one e,T⟩
theorem Xmj {h0:Heap} {g0:Gh}:∀ {us:List Value} {l:List AV} {st:St} {g:Gh} {k:List AV→St→R},taL1 l st k=some res→Good w wr ts tm st g→Less w h0 g0 st.heap g→VRs w h0 g0 us l →
 ∃ l' Ss st' g',k l' st'=some res∧T1s w true (Kr w wr false) us l' Ss∧Tk w wr ts tm st g Ss st' g'
 | _,_,st,g,k,h,G,_,.nil=>⟨[],[],st,g,h,.nil,.none G⟩
 | _,_,st,g,k,h,G,L,.cons h1 h2=>by
   simp only [taL1] at h
   obtain ⟨a',S1,st1,g1,h,e1,T1⟩:=Xos h G L h1
   obtain ⟨l',Ss,st2,g2,h,e2,T2⟩:=Xmj h T1.good (L.trans T1.less) h2
   obtain ⟨T3,hd⟩:=T1.trans T2
   exact ⟨_,_,st2,g2,h,.cons e1 (fun _=>hd) e2,T3⟩
theorem Xw5 {u:Value} {a:AV} {k:AV→St→R} (h:ta2 a st k=some res) (G:Good w wr ts tm st g) (H:VR w st.heap g u a) :
 ∃ a' Ss st' g',k a' st'=some res∧T2 w true (Kr w wr false) u a' Ss∧Tk w wr ts tm st g Ss st' g':=by
 by_cases hag:∃ cs,a=.tup cs
 ·obtain ⟨cs,rfl⟩:=hag
  cases H with
  | tup H =>
    simp only [ta2] at h
    obtain ⟨l',Ss,st',g',h,e,T⟩:=Xmj h G .refl H
    exact ⟨_,Ss,st',g',h,.tup e,T⟩
 ·have h:ta1 a st k=some res:=by
   cases a <;> first | exact h | exact absurd ⟨_,rfl⟩ hag
  obtain ⟨a',S,st',g',h,e,T⟩:=Xos h G .refl H
  exact ⟨_,_,st',g',h,.one e,T⟩
def Xkp (w:World) (K:CS) (S:BS):BS:=fun k=>S k∧k<w.heap.size∧∃ q,K k q
theorem T0s.trim {own:Bool} {K:CS}:∀ {vs:List Value} {l:List AV} {Ss:List BS},T0s w own K vs l Ss→T0s w own K vs l (Ss.map (Xkp w K))
 | _,_,_,.nil=>.nil
 | _,_,_,.cons h1 h2 h3=>.cons h1.trim (fun ho S' hS' k hk hk'=>by
  obtain ⟨S,hS,rfl⟩:=List.mem_map.1 hS'
  exact h2 ho S hS k hk.1 hk'.1) (T0s.trim h3)
theorem T1.trim {own:Bool} {K:CS} {v:Value} {a:AV} {Ss:List BS} (h:T1 w own K v a Ss):T1 w own K v a (Ss.map (Xkp w K)):=by
 cases h with
 | one h=>exact .one h.trim
 | agg h=>exact .agg h.trim
theorem T1s.trim {own:Bool} {K:CS}:∀ {vs:List Value} {l:List AV} {Ss:List BS},T1s w own K vs l Ss→T1s w own K vs l (Ss.map (Xkp w K))
 | _,_,_,.nil=>.nil
 | _,_,_,.cons h1 h2 h3=>by
   rw [List.map_append]
   exact .cons h1.trim (fun ho S hS S' hS' k hk hk'=>by
    obtain ⟨R,hR,rfl⟩:=List.mem_map.1 hS
    obtain ⟨R',hR',rfl⟩:=List.mem_map.1 hS'
    exact h2 ho R hR R' hR' k hk.1 hk'.1) (T1s.trim h3)
theorem T2.trim {own:Bool} {K:CS} {v:Value} {a:AV} {Ss:List BS} (h:T2 w own K v a Ss):T2 w own K v a (Ss.map (Xkp w K)):=by
 cases h with
 | one h=>exact .one h.trim
 | tup h=>exact .tup h.trim
theorem T0s.mono {own:Bool} {K K':CS} (hK:∀ b q,K b q→K' b q):∀ {vs:List Value} {l:List AV} {Ss:List BS},T0s w own K vs l Ss→T0s w own K' vs l Ss
 | _,_,_,.nil=>.nil
 | _,_,_,.cons h1 h2 h3=>.cons (h1.mono (fun _ h=>h) (fun b q _=>hK b q)) h2 (T0s.mono hK h3)
theorem T1.mono {own:Bool} {K K':CS} (hK:∀ b q,K b q→K' b q) {v:Value} {a:AV} {Ss:List BS} (h:T1 w own K v a Ss):T1 w own K' v a Ss:=by
 cases h with
 | one h=>exact .one (h.mono (fun _ h=>h) (fun b q _=>hK b q))
 | agg h=>exact .agg (h.mono hK)
theorem T1s.mono {own:Bool} {K K':CS} (hK:∀ b q,K b q→K' b q):∀ {vs:List Value} {l:List AV} {Ss:List BS},T1s w own K vs l Ss→T1s w own K' vs l Ss
 | _,_,_,.nil=>.nil
 | _,_,_,.cons h1 h2 h3=>.cons (h1.mono hK) h2 (T1s.mono hK h3)
theorem T2.mono {own:Bool} {K K':CS} (hK:∀ b q,K b q→K' b q) {v:Value} {a:AV} {Ss:List BS} (h:T2 w own K v a Ss):T2 w own K' v a Ss:=by
 cases h with
 | one h=>exact .one (h.mono hK)
 | tup h=>exact .tup (h.mono hK)
end
section
variable {C:Ctx} {ts:List (List Value)} {w:World} {a:Act} {st:St} {wr:Wrs} {g:Gh} {res:Res}
theorem Inv.answer (I:Inv C ts w a st wr g) (hq:∀ b q,¬C.wr0 b q) {u:Value} {av:AV} {k:AV→St→R} (h:ta2 av st k=some res) (H:VR w st.heap g u av):∃ a' st',k a' st'=some res∧PRes C.w0 w u a':=by
 obtain ⟨a',Ss,st',g',h,e,T⟩:=Xw5 h I.good H
 have e2:T2 w true (fun b q=>C.w0.heap.size≤b∧w.frozen? ⟨b,q,none⟩=false) u a' (Ss.map (Xkp w (Kr w wr false))) :=
  e.trim.mono (fun b q hk=>⟨Nat.le_of_not_lt fun hlt=>hq b q (I.can b q hk.1 hlt),hk.2⟩)
 refine ⟨a',st',h,Ss.map (Xkp w (Kr w wr false)),e2,fun S hS k hk=>?_⟩
 obtain ⟨R,_,rfl⟩:=List.mem_map.1 hS
 obtain ⟨_,hlt,q,hkq⟩:=hk
 exact ⟨Nat.le_of_not_lt fun hlt=>hq k q (I.can k q hkq.1 hlt),hlt⟩
end
end Go.Abs
namespace Go.Abs
section
variable {w:World} {res:Res}
theorem Xgd {h:Heap} {x:Root} {k:Nat→Heap→R} (hh:Xuz h x k=some res):k h.length (h++[some x])=some res:=by
 induction h generalizing k with
 | nil=>exact hh
 | cons a h ih=>simpa using ih hh
structure HP (w:World) (h:Heap) (ρ:Nat→Value):Prop where
 pos:∃ l,h=none::l
 root:∀ m x,h[m]?.join=some x→∃ (cs:List AV) (b o:Nat) (arr:Array Value) (e:TypeId) (fz:Nat×Nat) (vs:List Value),x=⟨true,false,true,cs.length,[cs]⟩∧ρ m=.slice (some ⟨b,o,none⟩) 1 1 ∧
  w.heap[b]?=some (.cells arr e fz)∧o+cs.length≤arr.size∧(∀ q v,vs[q]?=some v→arr[o+q]?=some v)∧Leaves w Any vs cs
def Xvn (row:List AV) (G:List Value) (h:Heap) (ρ:Nat→Value) (hF:Heap) (gF:Gh):Prop :=
 (∃ row' G',row <+: row'∧G <+: G'∧hF[0]?.join=some ⟨true,true,true,0,[row']⟩∧gF.G 0=G')∧∀ m x,h[m]?.join=some x→hF[m]?.join=some x∧gF.ρ m=ρ m
def Nl (row:List AV) (G:List Value) (h:Heap) (ρ:Nat→Value) (v:Value) (av:AV):Prop:=∀ (w:World) (hF:Heap) (gF:Gh),Xvn row G h ρ hF gF→VR w hF gF v av
def Nls (row:List AV) (G:List Value) (h:Heap) (ρ:Nat→Value) (vs:List Value) (l:List AV):Prop:=∀ (w:World) (hF:Heap) (gF:Gh),Xvn row G h ρ hF gF→VRs w hF gF vs l
structure Grow (w:World) (row:List AV) (G:List Value) (h:Heap) (ρ:Nat→Value) (row':List AV) (G':List Value) (h':Heap) (ρ':Nat→Value):Prop where
 pre:row <+: row'
 gs:G <+: G'
 leaves:Leaves w Any G row→Leaves w Any G' row'
 hp:HP w h ρ→HP w h' ρ'
 heap:∀ m x,h[m]?.join=some x→h'[m]?.join=some x∧ρ' m=ρ m
theorem Grow.refl {row:List AV} {G:List Value} {h:Heap} {ρ:Nat→Value}:Grow w row G h ρ row G h ρ:=⟨List.prefix_refl _,List.prefix_refl _,fun h=>h,fun h=>h,fun _ _ h=>⟨h,rfl⟩⟩
theorem Grow.trans {row row1 row2:List AV} {G G1 G2:List Value} {h h1 h2:Heap} {ρ ρ1 ρ2:Nat→Value} (A:Grow w row G h ρ row1 G1 h1 ρ1) (B:Grow w row1 G1 h1 ρ1 row2 G2 h2 ρ2):Grow w row G h ρ row2 G2 h2 ρ2 :=
 ⟨A.pre.trans B.pre,A.gs.trans B.gs,fun h=>B.leaves (A.leaves h),fun h=>B.hp (A.hp h),fun m x hx=>by
  obtain ⟨e1,e2⟩:=A.heap m x hx
  obtain ⟨e3,e4⟩:=B.heap m x e1
  exact ⟨e3,e4.trans e2⟩⟩
theorem Grow.later {row row1:List AV} {G G1:List Value} {h h1:Heap} {ρ ρ1:Nat→Value} (A:Grow w row G h ρ row1 G1 h1 ρ1) {hF:Heap} {gF:Gh} (L:Xvn row1 G1 h1 ρ1 hF gF):Xvn row G h ρ hF gF:=by
 obtain ⟨⟨row',G',e1,e2,e3,e4⟩,L2⟩:=L
 refine ⟨⟨row',G',A.pre.trans e1,A.gs.trans e2,e3,e4⟩,fun m x hx=>?_⟩
 obtain ⟨f1,f2⟩:=A.heap m x hx
 obtain ⟨f3,f4⟩:=L2 m x f1
 exact ⟨f3,f4.trans f2⟩
theorem Leaves.snoc {K:CS} {v:Value} {a:AV} (h:Leaf w K v a):∀ {vs:List Value} {l:List AV},Leaves w K vs l→Leaves w K (vs++[v]) (l++[a])
 | _,_,.nil=>.cons h .nil
 | _,_,.cons h1 h2=>.cons h1 (Leaves.snoc h h2)
theorem Leaves.get {K:CS}:∀ {vs:List Value} {l:List AV} {j:Nat} {a:AV},Leaves w K vs l→l[j]?=some a→∃ v,vs[j]?=some v∧Leaf w K v a
 | _,_,0,_,.cons h1 _,ha=>by simp at ha;subst ha;exact ⟨_,rfl,h1⟩
 | _,_,j+1,_,.cons _ h2,ha=>by
   obtain ⟨v,e1,e2⟩:=Leaves.get (j:=j) h2 (by simpa using ha)
   exact ⟨v,by simpa using e1,e2⟩
 | _,_,0,_,.nil,ha=>by simp at ha
 | _,_,j+1,_,.nil,ha=>by simp at ha
theorem oa0 {v:Value} {a:AV} {row:List AV} {G:List Value} {h:Heap} {ρ:Nat→Value} {k:AV→List AV→R} (hh:op0 0 a row k=some res) (hG:Leaves w Any G row) (T:Leaf w Any v a) :
 ∃ av row' G',k av row'=some res∧Grow w row G h ρ row' G' h ρ∧Nl row' G' h ρ v av:=by
 have leaf:∀ a',a'=a→(∀ sz rows,a≠.lst sz rows)→k a' row=some res→∃ av row' G',k av row'=some res∧Grow w row G h ρ row' G' h ρ∧Nl row' G' h ρ v av:=by
  rintro a' rfl hn hk
  exact ⟨a',row,G,hk,.refl,fun w' hF gF _=>TR.leafVR T w' hF gF hn⟩
 cases a <;> simp only [op0] at hh <;> try (cases hh;done)
 case lst sz rows =>
  have hh:=Xh4 hh
  refine ⟨_,row++[.lst sz rows],G++[v],hh,⟨List.prefix_append _ _,List.prefix_append _ _,fun hl=>hl.snoc T,fun h=>h,fun _ _ h=>⟨h,rfl⟩⟩,fun w' hF gF L=>?_⟩
  obtain ⟨⟨row',G',e1,e2,e3,e4⟩,_⟩:=L
  have f1:row'[row.length]?=some (.lst sz rows):=by
   obtain ⟨t,rfl⟩:=e1
   simp
  have f2:G'[row.length]?=some v:=by
   obtain ⟨t,rfl⟩:=e2
   rw [←hG.length]
   simp
  refine .ref (sz:=sz) (rows:=rows) ?_
  rw [Y2 e3]
  simp only [Uu,List.getElem?_cons_zero,f1,e4,f2,walk]
 all_goals exact leaf _ rfl (fun _ _ e=>by cases e) hh
theorem oaL {h:Heap} {ρ:Nat→Value}:∀ {vs:List Value} {l:List AV} {row:List AV} {G:List Value} {k:List AV→List AV→R},opL0 0 l row k=some res→Leaves w Any G row→Leaves w Any vs l →
 ∃ avs row' G',k avs row'=some res∧Grow w row G h ρ row' G' h ρ∧Nls row' G' h ρ vs avs
 | _,_,row,G,k,hh,_,.nil=>⟨[],row,G,by simpa [opL0] using hh,.refl,fun _ _ _ _=>.nil⟩
 | _,_,row,G,k,hh,hG,.cons h1 h2=>by
   simp only [opL0] at hh
   obtain ⟨av,r1,G1,hh,A,n1⟩:=oa0 (h:=h) (ρ:=ρ) hh hG h1
   obtain ⟨avs,r2,G2,hh,B,n2⟩:=oaL (h:=h) (ρ:=ρ) hh (A.leaves hG) h2
   exact ⟨_,r2,G2,hh,A.trans B,fun w' hF gF L=>.cons (n1 w' hF gF (B.later L)) (n2 w' hF gF L)⟩
theorem Xmk {h:Heap} {x:Root} {m:Nat}:(h++[some x])[m]?.join=if m=h.length then some x else h[m]?.join:=by
 rcases Nat.lt_trichotomy m h.length with hlt | rfl | hgt
 ·rw [List.getElem?_append_left hlt,if_neg (by omega)]
 ·simp
 ·rw [if_neg (by omega),List.getElem?_eq_none (by simp;omega),List.getElem?_eq_none (by omega)]
theorem Xvo {h:Heap} {ρ:Nat→Value} {b o:Nat} {cs:Array Value} {e:TypeId} {fz:Nat×Nat} {vs:List Value} {l:List AV} {row:List AV} {G:List Value} (hb:w.heap[b]?=some (.cells cs e fz)) (hs:o+l.length≤cs.size)
 (hv:∀ q v,vs[q]?=some v→cs[o+q]?=some v) (hl:Leaves w Any vs l) (hpos:0<h.length) :
 Grow w row G h ρ row G (h++[some ⟨true,false,true,l.length,[l]⟩]) (fun m=>if m=h.length then .slice (some ⟨b,o,none⟩) 1 1 else ρ m) ∧
 Nl row G (h++[some ⟨true,false,true,l.length,[l]⟩]) (fun m=>if m=h.length then .slice (some ⟨b,o,none⟩) 1 1 else ρ m) (.pointer (some ⟨b,o,none⟩)) (.ptr h.length [] 0 0):=by
 refine ⟨⟨List.prefix_refl _,List.prefix_refl _,fun h=>h,fun H=>?_,fun m x hx=>?_⟩,fun w' hF gF L=>?_⟩
 ·refine ⟨by obtain ⟨t,rfl⟩:=H.pos;exact ⟨_,rfl⟩,fun m x hx=>?_⟩
  rw [Xmk] at hx
  split at hx
  ·rename_i hm
   cases hx
   exact ⟨l,b,o,cs,e,fz,vs,rfl,by simp [hm],hb,hs,hv,hl⟩
  ·rename_i hm
   obtain ⟨cs',b',o',arr,e',fz',vs',k1,k2,k3⟩:=H.root m x hx
   exact ⟨cs',b',o',arr,e',fz',vs',k1,by simpa [hm] using k2,k3⟩
 ·have hm:m≠h.length:=by
   rintro rfl
   simp at hx
  rw [Xmk,if_neg hm]
  exact ⟨hx,by simp [hm]⟩
 ·obtain ⟨f1,f2⟩:=L.2 h.length ⟨true,false,true,l.length,[l]⟩ (by rw [Xmk,if_pos rfl])
  have:=VR.ptr (w:=w') (h:=hF) (g:=gF) (r:=h.length) (p:=[]) (i:=0) (j:=0) (sz:=l.length) (rows:=[l]) (b:=b) (o:=o) (n:=1) (c:=1) (by
   rw [Y2 f1]
   simp only [walk,f2,if_true])
  simpa using this
theorem Xjr:∀ {vs:List Value} {l:List AV} {row:List AV} {G:List Value} {h:Heap} {ρ:Nat→Value} {k:List AV→List AV→Heap→R},oaC true l row h k=some res→Leaves w Any G row→0<h.length→PVs w Any vs l →
 ∃ avs row' G' h' ρ',k avs row' h'=some res∧Grow w row G h ρ row' G' h' ρ'∧Nls row' G' h' ρ' vs avs∧0<h'.length
 | _,_,row,G,h,ρ,k,hh,_,hp,.nil=>⟨[],row,G,h,ρ,hh,.refl,fun _ _ _ _=>.nil,hp⟩
 | _,a::l,row,G,h,ρ,k,hh,hG,hp,.cons h1 h2=>by
   cases h1 with
   | pv hb hs hK hv hl =>
     simp only [oaC] at hh
     have hh:=Xgd hh
     obtain ⟨A,n1⟩:=Xvo (row:=row) (G:=G) (ρ:=ρ) hb hs hv hl hp
     obtain ⟨avs,r2,G2,h',ρ',hh,B,n2,hp'⟩:=Xjr hh hG (by simp) h2
     exact ⟨_,r2,G2,h',ρ',hh,A.trans B,fun w' hF gF L=>.cons (n1 w' hF gF (B.later L)) (n2 w' hF gF L),hp'⟩
   | leaf T =>
     have hh:(op0 0 a row fun v row=>oaC true l row h fun l row h=>k (v::l) row h)=some res:=by
      unfold Leaf at T
      cases T <;> exact hh
     obtain ⟨av,r1,G1,hh,A,n1⟩:=oa0 (h:=h) (ρ:=ρ) hh hG T
     obtain ⟨avs,r2,G2,h',ρ',hh,B,n2,hp'⟩:=Xjr (ρ:=ρ) hh (A.leaves hG) hp h2
     exact ⟨_,r2,G2,h',ρ',hh,A.trans B,fun w' hF gF L=>.cons (n1 w' hF gF (B.later L)) (n2 w' hF gF L),hp'⟩
theorem Xfi:∀ {vs:List Value} {l:List AV} {row:List AV} {G:List Value} {h:Heap} {ρ:Nat→Value} {k:List AV→List AV→Heap→R},oa true l row h k=some res→Leaves w Any G row→0<h.length→ARs w Any vs l →
 ∃ avs row' G' h' ρ',k avs row' h'=some res∧Grow w row G h ρ row' G' h' ρ'∧Nls row' G' h' ρ' vs avs∧0<h'.length
 | _,_,row,G,h,ρ,k,hh,_,hp,.nil=>⟨[],row,G,h,ρ,hh,.refl,fun _ _ _ _=>.nil,hp⟩
 | _,a::l,row,G,h,ρ,k,hh,hG,hp,.cons h1 h2=>by
   cases h1 with
   | pv h1 =>
     cases h1 with
     | pv hb hs hK hv hl =>
       simp only [oa] at hh
       have hh:=Xgd hh
       obtain ⟨A,n1⟩:=Xvo (row:=row) (G:=G) (ρ:=ρ) hb hs hv hl hp
       obtain ⟨avs,r2,G2,h',ρ',hh,B,n2,hp'⟩:=Xfi hh hG (by simp) h2
       exact ⟨_,r2,G2,h',ρ',hh,A.trans B,fun w' hF gF L=>.cons (n1 w' hF gF (B.later L)) (n2 w' hF gF L),hp'⟩
     | leaf T =>
       have hh:(op0 0 a row fun v row=>oa true l row h fun l row h=>k (v::l) row h)=some res:=by
        unfold Leaf at T
        cases T <;> exact hh
       obtain ⟨av,r1,G1,hh,A,n1⟩:=oa0 (h:=h) (ρ:=ρ) hh hG T
       obtain ⟨avs,r2,G2,h',ρ',hh,B,n2,hp'⟩:=Xfi (ρ:=ρ) hh (A.leaves hG) hp h2
       exact ⟨_,r2,G2,h',ρ',hh,A.trans B,fun w' hF gF L=>.cons (n1 w' hF gF (B.later L)) (n2 w' hF gF L),hp'⟩
   | agg T =>
     simp only [oa] at hh
     obtain ⟨av,r1,G1,hh,A,n1⟩:=oaL (h:=h) (ρ:=ρ) hh hG T
     obtain ⟨avs,r2,G2,h',ρ',hh,B,n2,hp'⟩:=Xfi (ρ:=ρ) hh (A.leaves hG) hp h2
     exact ⟨_,r2,G2,h',ρ',hh,A.trans B,fun w' hF gF L=>.cons (.agg (n1 w' hF gF (B.later L))) (n2 w' hF gF L),hp'⟩
   | fn T =>
     simp only [oa] at hh
     obtain ⟨av,r1,G1,h1',ρ1,hh,A,n1,hp1⟩:=Xjr (ρ:=ρ) hh hG hp T
     obtain ⟨avs,r2,G2,h',ρ',hh,B,n2,hp'⟩:=Xfi (ρ:=ρ1) hh (A.leaves hG) hp1 h2
     exact ⟨_,r2,G2,h',ρ',hh,A.trans B,fun w' hF gF L=>.cons (.fn (n1 w' hF gF (B.later L))) (n2 w' hF gF L),hp'⟩
theorem Xml {vs:List Value} {l:List AV} {k:List AV→Heap→R} (hh:Xhp true l k=some res) (H:ARs w Any vs l) :
 ∃ avs h g,k avs h=some res∧Rel w ⟨Xfh,Any⟩ h g∧VRs w h g vs avs:=by
 unfold Xhp at hh
 obtain ⟨avs,row,G,h,ρ,hh,A,n,_⟩:=Xfi (ρ:=fun _=>Go.undef) (G:=[]) hh .nil (by simp) H
 have hh:=Xe8 hh
 have hl:=A.leaves .nil
 have hhp:=A.hp ⟨⟨[],rfl⟩,fun m x hx=>by
  cases m with
  | zero=>simp at hx
  | succ m=>simp at hx⟩
 obtain ⟨t,ht⟩:=hhp.pos
 have get:∀ m,(put h 0 (some ⟨true,true,true,0,[row]⟩))[m]?.join=if m=0 then some ⟨true,true,true,0,[row]⟩ else h[m]?.join:=fun m=>Wv _ _ _ _
 refine ⟨avs,_,⟨ρ,fun _=>G,fun _ k=>k<w.heap.size⟩,hh,⟨fun r x hx=>?_,fun r x r' x' k hx hx' hne hro=>?_,fun r x k hx hF=>hF⟩,n w _ _ ⟨⟨row,G,List.prefix_refl _,List.prefix_refl _,by rw [get,if_pos rfl],rfl⟩,fun m x hx=>?_⟩⟩
 ·rw [get] at hx
  unfold Zu
  split at hx
  ·cases hx
   simp only
   refine ⟨row,fun _ k=>k<w.heap.size,rfl,hl.length,fun _ _ h=>h,(fun h=>nomatch h),fun j a v ha hv=>?_⟩
   obtain ⟨v',e1,e2⟩:=hl.get ha
   simp only at hv
   rw [e1] at hv
   cases hv
   exact TR.mono e2 (fun _ h=>h) (fun b q _ _=>⟨fun h=>h,trivial⟩)
  ·obtain ⟨cs,b,o,arr,e,fz,vs',rfl,k2,k3,k4,k5,k6⟩:=hhp.root r x hx
   simp only
   refine ⟨b,o,arr,e,fz,fun _ _ k=>k<w.heap.size,k2,k3,by simpa using k4,fun row' hr=>by simp at hr;rw [hr],fun q _ _=>⟨fun h=>h,trivial⟩,Xfg k3,fun _ _ _ h=>h,(fun h=>nomatch h),fun i j row' a hr ha=>?_⟩
   cases i with
   | succ i=>simp at hr
   | zero =>
     simp at hr
     subst hr
     obtain ⟨v',e1,e2⟩:=k6.get ha
     have e3:arr.getD (o+0*cs.length+j) default=v':=by
      rw [Nat.zero_mul,Nat.add_zero]
      exact Xa5 (k5 j v' e1)
     rw [e3]
     unfold Ut
     rw [(Xp0 0 [] e2).2]
     exact TR.mono e2 (fun _ h=>h) (fun b q _ _=>⟨fun h=>h,trivial⟩)
 ·have ro:∀ (m:Nat) (y:Root),(put h 0 (some ⟨true,true,true,0,[row]⟩))[m]?.join=some y→y.ro=true:=by
   intro m y hy
   rw [get] at hy
   split at hy
   ·cases hy;rfl
   ·obtain ⟨_,_,_,_,_,_,_,rfl,_⟩:=hhp.root m y hy
    rfl
  rw [ro r x hx] at hro
  cases hro
 ·rw [get]
  have hm:m≠0:=by
   rintro rfl
   rw [ht] at hx
   simp at hx
  rw [if_neg hm]
  exact ⟨hx,rfl⟩
end
end Go.Abs
namespace Go.Abs
section
variable {P:Program} {cfg:Cfg} {w:World} {wr:Wrs} {hp:Heap} {g:Gh} {res:Res}
theorem Xap {α:Type}:∀ {n:Nat} {l:List α} {k:List α→α→List α→R},Xe3 n l k=some res→∃ x y z,l=x++y::z∧x.length=n∧k x y z=some res
 | 0,[],k,h=>by simp [Xe3] at h
 | 0,a::l,k,h=>⟨[],a,l,rfl,rfl,h⟩
 | n+1,[],k,h=>by simp [Xe3] at h
 | n+1,a::l,k,h=>by
   simp only [Xe3] at h
   obtain ⟨x,y,z,e1,e2,h⟩:=Xap h
   exact ⟨a::x,y,z,by rw [e1];rfl,by rw [List.length_cons,e2],h⟩
theorem VRs.app_inv {h:Heap}:∀ {x:List AV} {z:List AV} {vs:List Value},VRs w h g vs (x++z)→∃ xs zs,vs=xs++zs∧VRs w h g xs x∧VRs w h g zs z
 | [],z,vs,H=>⟨[],vs,rfl,.nil,H⟩
 | a::x,z,_,.cons h1 h2=>by
   obtain ⟨xs,zs,e,k1,k2⟩:=VRs.app_inv h2
   exact ⟨_::xs,zs,by rw [e];rfl,.cons h1 k1,k2⟩
def Oth (hp:Heap) (g:Gh) (r:Nat) (S:BS):Prop:=∀ k,S k→∃ r' x,r'≠r∧hp[r']?.join=some x∧g.F r' k
theorem Xhb (RL:Rel w wr hp g) {r esz:Nat} {v:Value} {a:AV} {k:AV→R} (h:ioc0 hp r esz a k=some res) (H:VR w hp g v a):∃ a' S,k a'=some res∧TR w false Any S v a'∧Oth hp g r S:=by
 have lst:∀ (r':Nat) (p:Path) (x:Root) (v0:Value) (sz:Nat) (rows:Rows),r'≠r→Yq w hp g r' p=some (v0,sz,rows)→hp[r']?.join=some x→¬(x.box=true∧p=[])→∃ S,TR w false Any S v0 (.lst sz rows)∧Oth hp g r S:=by
  intro r' p x v0 sz rows hr' hw hx hn
  obtain ⟨x',hx',hr,hv⟩:=Yr hw
  rw [hx] at hx'
  cases hx'
  obtain ⟨v',hw',hc⟩:=RL.walks hx hr hv
  rw [hw] at hw'
  cases hw'
  rcases hc with ⟨h1,h2⟩ | ⟨S,ht,hS⟩
  ·exact absurd ⟨h2,h1⟩ hn
  ·exact ⟨_,ht.low.mono (fun _ h=>h) (fun _ _ _ _=>trivial),fun k hk=>⟨r',x,hr',hx,hS k hk.1⟩⟩
 have no:Oth hp g r fun _=>False:=fun k hk=>hk.elim
 cases H <;> simp only [ioc0,cl0] at h <;> try (cases h;done)
 ·exact ⟨_,_,h,TR.bool _,no⟩
 ·exact ⟨_,_,h,TR.int _ _,no⟩
 ·exact ⟨_,_,h,TR.str _,no⟩
 ·exact ⟨_,_,h,TR.nilp,no⟩
 ·exact ⟨_,_,h,TR.nilf,no⟩
 ·exact ⟨_,_,h,TR.nil,no⟩
 ·rename_i r' p sz rows h1
  split at h
  ·cases h
  rename_i hne
  obtain ⟨x,sz',rows',hres,h⟩:=Ul h
  obtain ⟨x',hx',hr',_⟩:=Yr h1
  simp only [Abs.res,hx',hr',Option.some.injEq,Prod.mk.injEq] at hres
  obtain ⟨rfl,rfl,rfl⟩:=hres
  have main:¬(x'.box=true∧p=[])→k (.lst sz rows)=some res→∃ a' S,k a'=some res∧TR w false Any S v a'∧Oth hp g r S:=fun hn h=>by
   obtain ⟨S,e1,e2⟩:=lst r' p x' v _ _ hne h1 hx' hn
   exact ⟨_,S,h,e1,e2⟩
  split at h
  ·cases h
  ·rename_i hn _ _
   exact main (fun e=>hn e.1 e.2) h
 ·rename_i r' p off len sz rows v0 h1 hl h2
  split at h
  ·cases h
  rename_i hne
  obtain ⟨x,sz',rows',hres,h⟩:=Ul h
  obtain ⟨x',hx',hr',_⟩:=Yr h1
  simp only [Abs.res,hx',hr',Option.some.injEq,Prod.mk.injEq] at hres
  obtain ⟨rfl,rfl,rfl⟩:=hres
  have main:¬(x'.box=true∧p=[])→k (.lst sz ((rows.drop off).take len))=some res→∃ a' S,k a'=some res∧TR w false Any S v a'∧Oth hp g r S:=fun hn h=>by
   obtain ⟨S,e1,e2⟩:=lst r' p x' v0 _ _ hne h1 hx' hn
   exact ⟨_,S,h,TR.sub e1 hl h2,e2⟩
  split at h
  ·cases h
  ·rename_i hn _ _
   exact main (fun e=>hn e.1 e.2) h
 ·exact ⟨_,_,h,TR.nil,no⟩
theorem Xkq (RL:Rel w wr hp g) {r:Nat}:∀ {vs:List Value} {l:List AV} {k:List AV→R},Xu0 hp r l k=some res→VRs w hp g vs l→∃ l' Ss,k l'=some res∧T0s w false Any vs l' Ss∧∀ S∈Ss,Oth hp g r S
 | _,_,k,h,.nil=>⟨[],[],h,.nil,fun _ h=>by simp at h⟩
 | _,_,k,h,.cons h1 h2=>by
   simp only [Xu0] at h
   obtain ⟨a',S,h,e1,e2⟩:=Xhb RL h h1
   obtain ⟨l',Ss,h,e3,e4⟩:=Xkq RL h h2
   exact ⟨_,_,h,.cons e1 (fun h=>by cases h) e3,fun S' hS=>(List.mem_cons.1 hS).elim (fun e=>e▸e2) (fun hS=>e4 S' hS)⟩
theorem Xtn (RL:Rel w wr hp g) {r:Nat} {t:TypeId} {v:Value} {a:AV} {k:AV→R} (h:ioc1 cfg hp r t a k=some res) (H:VR w hp g v a):∃ a' Ss,k a'=some res∧T1 w false Any v a' Ss∧∀ S∈Ss,Oth hp g r S:=by
 by_cases hag:∃ cs,a=.agg cs
 ·obtain ⟨cs,rfl⟩:=hag
  cases H with
  | agg H =>
    simp only [ioc1] at h
    obtain ⟨l',Ss,h,e1,e2⟩:=Xkq RL h H
    exact ⟨_,_,h,.agg e1,e2⟩
 ·have h:(U6 cfg t fun esz=>ioc0 hp r esz a k)=some res:=by
   cases a <;> first | exact h | exact absurd ⟨_,rfl⟩ hag
  obtain ⟨esz,h⟩:=Xch h
  obtain ⟨a',S,h,e1,e2⟩:=Xhb RL h H
  exact ⟨_,_,h,.one e1,fun S' hS=>by simp at hS;subst hS;exact e2⟩
theorem Xfj (RL:Rel w wr hp g) {r:Nat}:∀ {ts:List TypeId} {vs:List Value} {l:List AV} {k:List AV→R},Xlu cfg hp r ts l k=some res→VRs w hp g vs l→∃ l' Ss,k l'=some res∧l'.length=l.length∧T1s w false Any vs l' Ss∧∀ S∈Ss,Oth hp g r S
 | [],_,_,k,h,.nil=>⟨[],[],h,rfl,.nil,fun _ h=>by simp at h⟩
 | t::ts,_,_,k,h,.cons h1 h2=>by
   simp only [Xlu] at h
   obtain ⟨a',S1,h,e1,e2⟩:=Xtn RL h h1
   obtain ⟨l',Ss,h,e0,e3,e4⟩:=Xfj RL h h2
   exact ⟨_,_,h,by simp [e0],.cons e1 (fun h=>by cases h) e3,fun S' hS=>(List.mem_append.1 hS).elim (fun hS=>e2 S' hS) (fun hS=>e4 S' hS)⟩
 | [],_,_,k,h,.cons _ _=>by simp [Xlu] at h
 | _::_,_,_,k,h,.nil=>by simp [Xlu] at h
end
section
variable {w:World} {wr:Wrs} {ts:List (List Value)} {tm:List Value} {st:St} {g:Gh} {res:Res}
theorem Xto {w':World} {h h':Heap} {g':Gh} {v:Value} {a:AV} (hs:Xg3 a=true) (H:VR w h g v a):VR w' h' g' v a:=by
 cases H <;> simp only [Xg3] at hs <;> first | (cases hs;done) | constructor
theorem Xfk {w':World} {h h':Heap} {g':Gh}:∀ {vs:List Value} {l:List AV},Xhq l=true→VRs w h g vs l→VRs w' h' g' vs l
 | _,_,_,.nil=>.nil
 | _,a::l,hs,.cons h1 h2=>by
   simp only [Xhq] at hs
   split at hs
   ·rename_i e
    exact .cons (Xto e h1) (Xfk hs h2)
   ·cases hs
theorem Xot {h:Heap} {v:Value} {a:AV} (hs:Xn9 a=true) (H:VR w h g v a):Xrw v a:=by
 intro w' h' g'
 cases H with
 | tup H=>exact .tup (Xfk hs H)
 | agg H=>exact .agg (Xfk hs H)
 | bool b=>exact .bool b
 | int k n=>exact .int k n
 | str s=>exact .str s
 | nilp=>exact .nilp
 | nilf=>exact .nilf
 | _=>simp [Xn9,Xg3] at hs
theorem Xtp {h0:Heap} {g0:Gh} {r:Nat} {u:Value} {a:AV} {k:AV→St→R} (hin:inR r a=true) (h:ta0 a st k=some res) (G:Good w wr ts tm st g) (L:Less w h0 g0 st.heap g) (H:VR w h0 g0 u a) :
 ∃ a' S st1 g1,k a' st1=some res∧TR w true (Kr w wr false) S u a'∧Tk w wr ts tm st g [S] st1 g1∧∀ k,S k→∃ x,st.heap[r]?.join=some x∧g.F r k:=by
 cases H <;> simp only [inR,Xg3] at hin <;> try (cases hin;done)
 ·exact ⟨_,_,st,g,h,.bool _,.leaf G,fun _ h=>h.elim⟩
 ·exact ⟨_,_,st,g,h,.int _ _,.leaf G,fun _ h=>h.elim⟩
 ·exact ⟨_,_,st,g,h,.str _,.leaf G,fun _ h=>h.elim⟩
 ·exact ⟨_,_,st,g,h,.nilp,.leaf G,fun _ h=>h.elim⟩
 ·simp only [ta0] at h;cases h
 ·rename_i r' p sz rows h1
  split at hin
  ·rename_i hr
   have hr:=of_decide_eq_true hr
   subst hr
   simp only [ta0] at h
   obtain ⟨v,sz',rows',S,st',g',h,T⟩:=W3 h G
   obtain ⟨rows0,hb0,hlen0⟩:=L.back _ _ _ _ _ T.at_
   rw [h1] at hb0
   cases hb0
   obtain ⟨x,hx,hro,hf⟩:=T.was
   exact ⟨_,S,st',g',h,T.tree,⟨T.good,T.less,fun S' h k hk=>by simp at h;subst h;exact T.apart k hk,fun S' h k hk=>by simp at h;subst h;exact ⟨_,x,hx,hf k hk⟩⟩,fun k hk=>⟨x,hx,hf k hk⟩⟩
  ·cases hin
theorem Xjs {h0:Heap} {g0:Gh} {r:Nat}:∀ {us:List Value} {l:List AV} {st:St} {g:Gh} {k:List AV→St→R},taR r l st k=some res→Good w wr ts tm st g→Less w h0 g0 st.heap g→VRs w h0 g0 us l →
 ∃ l' Ss st' g',k l' st'=some res∧l'.length=l.length∧T0s w true (Kr w wr false) us l' Ss∧Tk w wr ts tm st g Ss st' g'∧∀ S∈Ss,∀ k,S k→∃ x,st.heap[r]?.join=some x∧g.F r k
 | _,_,st,g,k,h,G,_,.nil=>⟨[],[],st,g,h,rfl,.nil,.none G,fun _ h=>by simp at h⟩
 | _,_,st,g,k,h,G,L,.cons h1 h2=>by
   simp only [taR] at h
   split at h
   ·rename_i hin
    obtain ⟨a',S,st1,g1,h,e1,T1,hS⟩:=Xtp hin h G L h1
    obtain ⟨l',Ss,st2,g2,h,e0,e2,T2,hSs⟩:=Xjs h T1.good (L.trans T1.less) h2
    obtain ⟨T3,hd⟩:=T1.trans T2
    refine ⟨_,_,st2,g2,h,by simp [e0],.cons e1 (fun _=>hd S (by simp)) e2,T3,fun S' hS' k hk=>?_⟩
    rcases List.mem_cons.1 hS' with rfl | hS'
    ·exact hS k hk
    ·obtain ⟨x,hx,hF⟩:=hSs S' hS' k hk
     obtain ⟨x1,hx1,_,_,_,hf⟩:=T1.less.flags r x hx
     exact ⟨x1,hx1,hf k hF⟩
   ·cases h
end
end Go.Abs
namespace Go.Abs
theorem Xzb {P:Program} {cfg:Cfg} (hT:Z2 P cfg.ty) {w:World} {wr:Wrs} {h:Heap} {g:Gh} (HR:Rel w wr h g) {t:TypeId} {va:Value} {r i j sz:Nat} {rows:Rows} {k:AV→R} {res:Res}
 (hh:U4 cfg t h (.ptr r [] i j) k=some res) (hv:VR w h g va (.ptr r [] i j)) (hx:h[r]?.join=some ⟨false,false,true,sz,rows⟩) (hag:∀ v,k v=some res→∃ cs,v=.agg cs) :
 ∃ b o us cs arr e fz,va=.pointer (some ⟨b,o,none⟩)∧k (.agg cs)=some res∧us.length=cs.length∧VRs w h g us cs∧w.heap[b]?=some (.cells arr e fz)∧o+cs.length≤arr.size ∧
  (∀ q u,us[q]?=some u→arr[o+q]?=some u)∧(∀ q,o≤q→q<o+cs.length→Kr w wr false b q)∧g.F r b ∧
  ∃ o0 n c,Yq w h g r []=some (.slice (some ⟨b,o0,none⟩) n c,sz,rows)∧o=o0+i*sz+j:=by
 cases hv
 rename_i sz1 rows1 b o n c hw
 simp only [U4] at hh
 obtain ⟨x,sz',rows',hres,hh⟩:=Ul hh
 obtain ⟨row,h1,hh⟩:=Ur hh
 obtain ⟨hjl,hh⟩:=Xga hh
 obtain ⟨ti,hti,hh⟩:=Y1 hh
 have hrr:x=⟨false,false,true,sz,rows⟩∧sz'=sz1∧rows'=rows1∧sz1=sz∧rows1=rows:=by
  obtain ⟨x',hx',hr',_⟩:=Yr hw
  rw [hx] at hx'
  cases hx'
  simp only [resR,Option.some.injEq,Prod.mk.injEq] at hr'
  simp only [Abs.res,hx,resR,Option.some.injEq,Prod.mk.injEq] at hres
  obtain ⟨e1,e2⟩:=hr'
  obtain ⟨e3,e4,e5⟩:=hres
  subst e1 e2
  exact ⟨e3.symm,e4.symm,e5.symm,rfl,rfl⟩
 obtain ⟨rfl,rfl,rfl,rfl,rfl⟩:=hrr
 have hroot:=HR.root r _ hx
 simp only [Zu] at hroot
 obtain ⟨b',o',arr,e,fz,f,k1,k2,k3,k4,k5,k6,_⟩:=hroot
 have hbo:b'=b∧o'=o:=by
  rw [Y2 hx] at hw
  simp only [walk,Option.some.injEq,Prod.mk.injEq] at hw
  rw [k1] at hw
  simp only [Value.slice.injEq,Option.some.injEq,Addr.mk.injEq] at hw
  exact ⟨hw.1.1.1,hw.1.1.2.1⟩
 obtain ⟨rfl,rfl⟩:=hbo
 obtain ⟨⟨d,hd,hsh⟩,⟨ii,z,hi1,hi2,_,_,_⟩,_,hone⟩:=hT _ hti
 split at hh
 ·rename_i fs hfs
  obtain ⟨vs,hlen,hvs,hk⟩:=Xod hh
  have cells:∀ q,q<ti.size→∃ u a',vs[q]?=some a'∧w.cell? ⟨b',o'+i*sz'+j+q,none⟩=some u∧VR w h g u a':=by
   intro q hq
   obtain ⟨a0,a',k1,k2,k3⟩:=hvs q hq
   rw [List.getElem?_drop] at k1
   obtain ⟨u,k4,k5⟩:=HR.loadC hw h1 k1 k3
   exact ⟨u,a',k2,by rwa [Nat.add_assoc],k5⟩
  have mk:∀ m,m≤ti.size→∃ us:List Value,us.length=m∧(∀ q u,us[q]?=some u→w.cell? ⟨b',o'+i*sz'+j+q,none⟩=some u)∧VRs w h g us (vs.take m):=by
   intro m
   induction m with
   | zero=>exact fun _=>⟨[],rfl,fun q u hu=>by simp at hu,by simpa using VRs.nil⟩
   | succ m ih =>
     intro hm
     obtain ⟨us,e1,e2,e3⟩:=ih (by omega)
     obtain ⟨u,a',k2,k4,k5⟩:=cells m (by omega)
     refine ⟨us++[u],by simp [e1],fun q u' hu'=>?_,?_⟩
     ·rw [List.getElem?_append] at hu'
      split at hu'
      ·exact e2 q u' hu'
      ·rename_i hq
       have:q=m:=by
        have:=(List.getElem?_eq_some_iff.1 hu').1
        simp at this
        omega
       subst this
       simp [e1] at hu'
       subst hu'
       exact k4
     ·have:vs.take (m+1)=vs.take m++[a']:=by
       rw [List.take_succ_eq_append_getElem (by omega)]
       congr 1
       have:=(List.getElem?_eq_some_iff.1 k2)
       obtain ⟨hm',e⟩:=this
       rw [e]
      rw [this]
      exact e3.append (.cons k5 .nil)
  obtain ⟨us,e1,e2,e3⟩:=mk ti.size (Nat.le_refl _)
  rw [←hlen,List.take_length] at e3
  have hrow:row.length=sz':=k4 row (List.mem_of_getElem? h1)
  have k3:o'+rows'.length*sz'≤arr.size:=k3
  have k5:∀ q,o'≤q→q<o'+rows'.length*sz'→Kr w wr false b' q:=k5
  have hilt:i<rows'.length:=(List.getElem?_eq_some_iff.1 h1).1
  have hjn:0<ti.size→j+ti.size≤sz':=by
   intro hpos
   obtain ⟨a0,_,k1,_,_⟩:=hvs (ti.size - 1) (by omega)
   rw [List.getElem?_drop] at k1
   have:=(List.getElem?_eq_some_iff.1 k1).1
   omega
  have hmul:i*sz'+sz'≤rows'.length*sz':=by
   have:=Nat.mul_le_mul_right sz' (show i+1≤rows'.length from hilt)
   rwa [Nat.add_mul,Nat.one_mul] at this
  refine ⟨b',o'+i*sz'+j,us,vs,arr,e,fz,rfl,hk,by rw [e1,hlen],e3,k2,?_,fun q u hu=>?_,fun q hq1 hq2=>k5 q (by omega) ?_,k6,o',n,c,hw,rfl⟩
  ·rcases Nat.eq_zero_or_pos ti.size with h0 | h0
   ·have:j≤sz':=by rw [←hrow];exact hjl
    omega
   ·have:=hjn h0;omega
  ·have h1:=e2 q u hu
   simp only [World.cell?,k2] at h1
   exact h1
  ·have h0:0<ti.size:=by omega
   have:=hjn h0;omega
 ·split at hh
  ·obtain ⟨a',hc,hk⟩:=Xeb hh
   obtain ⟨cs,rfl⟩:=hag _ hk
   rcases hc with ⟨_,_,_,hc⟩ | ⟨_,hc⟩
   ·cases hc
   ·subst hc
    rename_i row' v l hd0
    simp only [Qs] at hh
    cases hh
  ·simp at hh
end Go.Abs
namespace Go.Abs
theorem Xh5 {b:Nat}:∀ (us:List Value) (o:Nat) (w:World),w.setCells b o us={w with heap:=(w.setCells b o us).heap}
 | [],_,_=>rfl
 | u::us,o,w=>by
   rw [World.setCells]
   exact Xh5 us (o+1) (w.setCell ⟨b,o,none⟩ u)
theorem Xvp {w w':World} {b o:Nat} {arr arr':Array Value} {e:TypeId} {fz:Nat×Nat} {us:List Value} (hb:w.heap[b]?=some (.cells arr e fz)) (hb':w'.heap[b]?=some (.cells arr' e fz)) (hsz:arr'.size=arr.size)
 (hout:∀ q,q<o∨o+us.length≤q→arr'[q]?=arr[q]?) (hin:∀ q u,us[q]?=some u→arr'[o+q]?=some u) (hlen:o+us.length≤arr.size) :
 ∃ w2:World,w2.heap.size=w'.heap.size∧(∀ k,k≠b→w2.heap[k]?=w'.heap[k]?)∧w2.heap[b]?=w.heap[b]?∧w2.setCells b o us=w':=by
 have hlt:=Xfg hb'
 have hget:({w' with heap:=w'.heap.setIfInBounds b (.cells arr e fz)}:World).heap[b]?=some (.cells arr e fz):=by
  show (w'.heap.setIfInBounds b _)[b]?=_
  rw [Array.getElem?_setIfInBounds_self_of_lt hlt]
 have hoth:∀ k,k≠b→({w' with heap:=w'.heap.setIfInBounds b (.cells arr e fz)}:World).heap[k]?=w'.heap[k]?:=fun k hk=>by
  show (w'.heap.setIfInBounds b _)[k]?=_
  rw [Array.getElem?_setIfInBounds_ne (fun e=>hk e.symm)]
 refine ⟨{w' with heap:=w'.heap.setIfInBounds b (.cells arr e fz)},by simp,hoth,hget.trans hb.symm,?_⟩
 rw [Xh5]
 obtain ⟨cs',h1,h2,h3,h4⟩:=Xdf us o _ arr e fz hget
 have hh:(({w' with heap:=w'.heap.setIfInBounds b (.cells arr e fz)}:World).setCells b o us).heap=w'.heap:=by
  apply Array.ext_getElem?
  intro k
  by_cases hk:k=b
  ·subst hk
   rw [h1,hb']
   have:cs'=arr':=by
    apply Array.ext_getElem?
    intro q
    have hq:cs'.getD q default=arr'.getD q default:=by
     by_cases hq:q<o∨o+us.length≤q
     ·rw [h3 q hq,Array.getD_eq_getD_getElem?,Array.getD_eq_getD_getElem?,hout q hq]
     ·obtain ⟨j,rfl⟩:∃ j,q=o+j:=⟨q - o,by omega⟩
      have hj:j<us.length:=by omega
      rw [h4 j hj (by omega),Array.getD_eq_getD_getElem?,hin j us[j] (by simp [hj]),List.getD_eq_getElem?_getD]
      simp [hj]
    by_cases hlt:q<arr.size
    ·rw [Array.getElem?_eq_getElem (by omega),Array.getElem?_eq_getElem (by omega)]
     simpa [Array.getD,h2,hsz,hlt] using hq
    ·rw [Array.getElem?_eq_none (by omega),Array.getElem?_eq_none (by omega)]
   rw [this]
  ·rw [Q2 hk,hoth k hk]
 rw [hh]
theorem Good.aside2 {w w':World} {wr:Wrs} {ts:List (List Value)} {st:St} {g:Gh} {tm:List Value} (G:Good w wr ts tm st g) (hsz:w.heap.size≤w'.heap.size) (hw:∀ k,(∃ r x,st.heap[r]?.join=some x∧g.F r k)→w'.heap[k]?=w.heap[k]?):Good w' wr ts tm st g:=by
 have keeps:Vf (fun _ _=>True) w st.heap g w' st.heap g:=fun r p v sz rows _ hq=>⟨rows,by
  rw [Xao (wr:=wr) (fun x hx=>G.rel.root r x hx) rfl ⟨rfl,rfl⟩ (fun x k hx hF=>hw k ⟨r,x,hx,hF⟩)];exact hq,rfl⟩
 refine G.keep (Xdn.all (fun _ _=>trivial) st) keeps (G.rel.change (r:=st.heap.length) (X:=none) (Xcd.all (fun _ _=>trivial) _) keeps (fun r'=>?_) hsz (fun r' x' k _ hx hF=>hw k ⟨r',x',hx,hF⟩) (fun _ _=>⟨rfl,rfl,rfl⟩)
  (fun x hx=>by cases hx) (fun x hx=>by cases hx) (fun x hx=>by cases hx))
 by_cases e:r'=st.heap.length
 ·subst e;rw [if_pos rfl];simp
 ·rw [if_neg e]
theorem Fr.trans2 {w0 w1 w2:World} {wr0 W1:CS} (A:Fr w0 wr0 w1) (B:Fr w1 W1 w2) (hW:∀ b q,W1 b q→b<w0.heap.size→wr0 b q):Fr w0 wr0 w2:=by
 refine ⟨B.os.trans A.os,B.tape.trans A.tape,B.output.trans A.output,Nat.le_trans A.size B.size,fun b hb hn=>?_,fun b cs e fz hb=>?_⟩
 ·rw [B.block b (Nat.lt_of_lt_of_le hb A.size) (fun q h=>hn q (hW b q h hb))]
  exact A.block b hb hn
 ·obtain ⟨cs1,h1,h2,h3⟩:=A.cells b cs e fz hb
  obtain ⟨cs2,k1,k2,k3⟩:=B.cells b cs1 e fz h1
  exact ⟨cs2,k1,k2.trans h2,fun q hq=>(k3 q (fun h=>hq (hW b q h (Xfg hb)))).trans (h3 q hq)⟩
theorem T0s.noX {w:World} {own:Bool} {K:CS}:∀ {vs:List Value} {l:List AV} {Ss:List BS},T0s w own K vs l Ss→∀ a∈l,isX a=false
 | _,_,_,.nil,a,h=>by cases h
 | _,_,_,.cons h1 _ h3,a,h=>by
   rcases List.mem_cons.1 h with rfl | h
   ·cases h1 <;> rfl
   ·exact T0s.noX h3 a h
section
variable {P:Program} {E:Env} {cfg:Cfg} {lv:Lev} {C:Ctx} {ts:List (List Value)} {w w':World} {a:Act} {st:St} {wr:Wrs} {g:Gh} {c:St→R} {res:Res} {o:Oper} {slot:Nat}
theorem Xh6 {x:R} {k:Res→R} (h:bnd x k=some res):∃ v,x=some v∧k v=some res:=by
 cases x with
 | none=>rw [Xq4] at h;cases h
 | some v=>rw [Xez] at h;exact ⟨v,rfl,h⟩
theorem Inv.J (I:Inv C ts w a st wr g):C.E.J w∧C.E.N≤w.heap.size:=by
 refine ⟨C.E.stable C.w0 w C.hJ (fun b hb=>I.fr.block b (Nat.lt_of_lt_of_le hb C.hN) (fun q hq=>?_)) I.fr.os I.fr.tape I.fr.output,Nat.le_trans C.hN I.fr.size⟩
 have:=C.hwr b q hq
 omega
def COut (C:Ctx) (ts:List (List Value)) (a:Act) (k:AV→St→R) (res:Res) (e:Ending) (w':World):Prop :=
 ∃ v av st' wr' g',e=.returned v∧Inv C ts w' a st' wr' g'∧VR w' st'.heap g' v av∧k av st'=some res
theorem Hand.of {wr:Wrs} {w w2:World} {W:CS} {h:Heap} {g:Gh} (hW:∀ b q,W b q→wr.can b q):∀ {us:List Value} {l:List AV} {Ss:List BS},T0s w true (fun b q=>W b q∧w.frozen? ⟨b,q,none⟩=false) us l Ss →
 (∀ S∈Ss,∀ k,S k→w2.heap[k]?=w.heap[k]?∧k<w2.heap.size∧∀ r x,h[r]?.join=some x→¬g.F r k)→Hand w2 wr h g false us l Ss
 | _,_,_,.nil,_=>.nil
 | _,_,_,.cons (S:=S) h1 h2 h3,hS=>by
   have hX:isX _=false:=T0s.noX (.cons h1 h2 h3) _ (List.mem_cons_self ..)
   have h1':TR w true (Kr w wr false) S _ _:=h1.mono (fun _ h=>h) (fun b q _ hk=>⟨hW b q hk.1,hk.2⟩)
   exact .cons (fun _=>h1'.same (fun b hb=>(hS S (by simp) b hb).1)) (fun h=>by rw [hX] at h;cases h) (fun k hk=>⟨(hS S (by simp) k hk).2.1,(hS S (by simp) k hk).2.2⟩) (h2 rfl) (Hand.of hW h3 (fun S' h'=>hS S' (by simp [h'])))
theorem T0s.len {w:World} {own:Bool} {K:CS}:∀ {vs:List Value} {l:List AV} {Ss:List BS},T0s w own K vs l Ss→vs.length=l.length
 | _,_,_,.nil=>rfl
 | _,_,_,.cons _ _ h3=>by simp [T0s.len h3]
theorem Xzc {r:Nat} {cs:List AV} {k:AV→List AV→R} {k0:R} (h:roHd r cs k k0=some res):(∃ r' p rest,cs=.ref r' p::rest∧k (.ref r' p) rest=some res)∨k0=some res:=by
 unfold roHd at h
 split at h
 ·split at h
  ·exact .inr h
  ·exact .inl ⟨_,_,_,rfl,h⟩
 ·exact .inr h
theorem X1d (hT:Z2 P cfg.ty) (hL:IoOK P E cfg lv.pure) (hL2:X3l P E cfg lv.pure) (hE:C.E=E) (I:Inv C ts w a st wr g) {f:FuncId} {m:Nat} {tys:List TypeId} {args:List AV} {vals:List Value} {k:AV→St→R} (hm:cfg.mode f=m+2) (H:VRs w st.heap g vals args)
 (h0:Xxw cfg lv f m tys args st k=some res):FnOK P f∧Calls P f vals.toArray w (COut C ts a k res):=by
 unfold Xxw at h0
 obtain ⟨ta,_,tb,_,_,h1⟩:=Xap h0
 obtain ⟨va,p,vb,e1,e2,h⟩:=Xap h1
 clear h0 h1
 subst e1
 obtain ⟨vala,zs,ev,Ha,Hz⟩:=VRs.app_inv H
 obtain ⟨pv,valb,rfl,Hp,Hb⟩:∃ pv valb,zs=pv::valb∧VR w st.heap g pv p∧VRs w st.heap g valb vb:=by
  cases Hz with
  | cons h1 h2=>exact ⟨_,_,rfl,h1,h2⟩
 subst ev
 split at h
 case h_2=>cases h
 rename_i r q i j
 split at h
 case h_2=>cases h
 obtain ⟨x,hx,h⟩:=Ug h
 have hx:st.heap[r]?.join=some x:=by rw [hx];rfl
 obtain ⟨ro,virt,box,sz,rows⟩:=x
 simp only at h
 split at h
 case h_2=>cases h
 obtain ⟨va',Sa,h,la,Ta,Oa⟩:=Xfj I.good.rel h Ha
 obtain ⟨vb',Sb,h,lb,Tb,Ob⟩:=Xfj I.good.rel h Hb
 obtain ⟨b,o,us,cs0,arr,e,fz,rfl,h,hul,Hus,hb,hsz,hcell,hK,hF,o0,n0,c0',hw0,ho⟩:=Xzb hT I.good.rel h Hp hx (fun v hv=>by
  split at hv
  ·exact ⟨_,rfl⟩
  ·cases hv)
 simp only at h
 replace h:=Xzc h
 rcases h with ⟨rr,pp,rest0,rfl,h⟩ | h
 ·skip
  obtain ⟨ub,us,rfl,Hub,Hus⟩:∃ ub us1,us=ub::us1∧VR w st.heap g ub (.ref rr pp)∧VRs w st.heap g us1 rest0:=by
   cases Hus with
   | cons h1 h2=>exact ⟨_,_,rfl,h1,h2⟩
  obtain ⟨bl,Sl,h,Tl,Ol⟩:=Xhb I.good.rel h Hub
  have hub:arr[o]?=some ub:=by simpa using hcell 0 ub rfl
  have hcell1:∀ q u,us[q]?=some u→arr[o+1+q]?=some u:=fun q u hq=>by
   have:=hcell (q+1) u (by simpa using hq)
   rw [show o+1+q=o+(q+1) by omega]
   exact this
  simp only [List.length_cons] at hul hsz hK
  obtain ⟨cs,Ss,st1,g1,h,hl,T0,Tk1,hS⟩:=Xjs h I.good .refl Hus
  have hTl:T1s w false Any [ub] [bl] [Sl]:=.cons (S1:=[Sl]) (.one Tl) (fun h=>nomatch h) .nil
  have h:=Xa4 h
  obtain ⟨r0,hr,h⟩:=Xh6 h
  obtain ⟨hfn,hc⟩:=hL2 f m _ r0 hm hr
  obtain ⟨c0,cs1,rfl⟩:∃ c0 cs1,cs=c0::cs1:=by
   cases cs with
   | nil=>split at h <;> first | contradiction | cases h
   | cons c0 cs1=>exact ⟨_,_,rfl⟩
  have hlen:Xgr (c0::cs1).length r0.out=true:=by
   split at h
   ·assumption
   ·cases h
  simp only [hlen] at h
  have hlen:=Xjj hlen
  have hN:=I.J.2
  have hbF:∀ k,(∃ x,st.heap[r]?.join=some x∧g.F r k)→∀ S,S∈Sa∨S∈Sb∨S∈[Sl]→¬S k:=by
   intro k ⟨x,hx1,hFk⟩ S hSab hk
   rw [hx] at hx1
   cases hx1
   obtain ⟨r',x',hne,hx',hF'⟩:=(hSab.elim (fun h=>Oa S h) (fun h=>h.elim (fun h=>Ob S h) (fun h=>by rw [List.mem_singleton.1 h];exact Ol))) k hk
   exact I.good.rel.sep r _ r' x' k hx hx' (fun e=>hne e.symm) rfl hFk hF'
  have hwr:∀ b q,wr.can b q→C.E.N≤b:=fun b q h=>by
   rcases Nat.lt_or_ge b C.w0.heap.size with hlt | hge
   ·exact C.hwr b q (I.can b q h hlt)
   ·have:=C.hN;omega
  obtain ⟨d0,ds,hd⟩:∃ d0 ds,r0.out=d0::ds:=by
   cases hq:r0.out with
   | nil=>rw [hq] at hlen;cases hlen
   | cons d0 ds=>exact ⟨_,_,rfl⟩
  have hvt:∀ x,st1.heap[r]?.join=some x→x.ro=false∧x.virt=false∧x.box=true:=fun x hx1=>by
   obtain ⟨x0,hx0,f1,f2,f3,_⟩:=Tk1.less.flags r x hx1
   rw [hx] at hx0
   cases hx0
   exact ⟨f1.symm,f2.symm,f3.symm⟩
  rw [hd] at h
  obtain ⟨⟨v1,s1,q1⟩,hw1⟩:=Xcg h Tk1.good (fun x hx1 hv=>by rw [(hvt x hx1).2.1] at hv;cases hv)
  obtain ⟨rowsb,hback,_⟩:=Tk1.less.back _ _ _ _ _ hw1
  rw [hw0] at hback
  cases hback
  obtain ⟨x1,hx1,_⟩:=Yr hw1
  obtain ⟨g1ro,g1v,g1b⟩:=hvt x1 hx1
  have hFb:g1.F r b:=by
   have hroot:=Tk1.good.rel.root r x1 hx1
   simp only [Zu,g1v,g1b] at hroot
   obtain ⟨b1,o1,_,_,_,_,k1,_,_,_,_,k6,_⟩:=hroot
   rw [Y2 hx1] at hw1
   simp only [g1v,walk,Option.some.injEq,Prod.mk.injEq] at hw1
   rw [k1] at hw1
   simp only [Value.slice.injEq,Option.some.injEq,Addr.mk.injEq] at hw1
   rw [←hw1.1.1.1]
   exact k6
  have hwany:∀ w2:World,Yq w2 st1.heap g1 r []=some (.slice (some ⟨b,o0,none⟩) n0 c0',sz,q1):=fun w2=>by
   rw [Y2 hx1] at hw1 ⊢
   simp only [g1v,walk] at hw1 ⊢
   exact hw1
  have hSb:∀ S∈Ss,∀ k,S k→k≠b:=fun S hSS k hk e=>(Tk1.apart S hSS k hk).2 r x1 hx1 (e▸hFb)
  have hlow:∀ r x k,st.heap[r]?.join=some x→g.F r k→k<w.heap.size:=I.good.rel.low
  have hc:=hc va' (c0::cs1) vb' bl rfl (by rw [la,e2]) w b o wr.can arr e fz ub us vala valb Ss Sa Sb [Sl] (hE▸I.J.1) (hE▸hN) (hE▸hwr) hb (by rw [hl];exact hsz) hub hcell1 (fun q h1 h2=>hK q h1 (by rw [hl] at h2;exact h2)) T0
   (fun S h k hk=>⟨(Tk1.apart S h k hk).1,hSb S h k hk⟩) Ta Tb hTl (fun S hSab k hk=>⟨by
    obtain ⟨r',x',_,hx',hF'⟩:=(hSab.elim (fun h=>Oa S h) (fun h=>h.elim (fun h=>Ob S h) (fun h=>by rw [List.mem_singleton.1 h];exact Ol))) k hk
    exact hlow r' x' k hx' hF',fun e=>hbF b ⟨_,hx,hF⟩ S hSab (e▸hk),fun S' hS' hk'=>hbF k (hS S' hS' k hk') S hSab hk⟩)
  refine ⟨hfn,hc.mono fun en w' ⟨v,us',Ss',arr',he,hv,F,hb',ha0,hc',T',hS'⟩=>?_⟩
  have hul':us'.length=(c0::cs1).length:=T'.len.trans hlen
  have hnW:∀ q,¬(o≤q∧q<o+((c0::cs1).length+1))→¬IoW b o ((c0::cs1).length+1) Ss wr.can b q:=by
   rintro q hq (⟨_,h1,h2⟩ | ⟨_,S,h1,h2⟩)
   ·exact hq ⟨h1,h2⟩
   ·exact hSb S h1 b h2 rfl
  obtain ⟨arr2,hb2,hs2,ho2⟩:=F.cells b arr e fz hb
  rw [hb'] at hb2
  cases hb2
  obtain ⟨w2,z1,z2,z3,z4⟩:=Xvp (o:=o+1) hb hb' hs2 (fun q hq=>by
   by_cases hq0:q=o
   ·rw [hq0,ha0,hub]
   ·exact ho2 q (hnW q (by omega))) hc' (by rw [hul',hl];omega)
  have G2:Good w2 (wrUp wr w.heap.size) ts a.tmps.toList st1 g1:=by
   refine (Tk1.good.wr (Xha wr _)).aside2 (by rw [z1];exact F.size) fun k ⟨r',x',hx',hF'⟩=>?_
   by_cases hkb:k=b
   ·rw [hkb];exact z3
   ·rw [z2 k hkb]
    refine F.block k (Tk1.good.rel.low r' x' k hx' hF') ?_
    rintro q (⟨h1,_⟩ | ⟨_,S,h1,h2⟩)
    ·exact hkb h1
    ·exact (Tk1.apart S h1 k h2).2 r' x' hx' hF'
  have hand:Hand w2 (wrUp wr w.heap.size) st1.heap g1 false us' r0.out Ss':=by
   refine Hand.of (wr:=wrUp wr w.heap.size) (fun b q h=>h.elim .inr .inl) T' fun S hSS k hk=>?_
   obtain ⟨k1,k2,k3⟩:=hS' S hSS k hk
   refine ⟨z2 k k1,by rw [z1];exact k2,fun r' x' hx' hF'=>?_⟩
   obtain ⟨S0,hS0,hk0⟩:=k3 (Tk1.good.rel.low r' x' k hx' hF')
   exact (Tk1.apart S0 hS0 k hk0).2 r' x' hx' hF'
  rw [←hd] at h
  obtain ⟨st',g',h,G3,_⟩:=Xce (ex:=false) r0.out (j+1) us' Ss' st1 g1 w2 h G2 ⟨x1,hx1,g1ro,fun h=>by cases h⟩ ⟨q1,hwany w2⟩ hand
  rw [←Nat.add_assoc,←ho,z4] at G3
  split at h
  case h_2=>cases h
  refine ⟨v,r0.val,st',_,g',he,⟨G3,I.fr.trans2 F ?_,fun b' q hw hb0=>?_,I.dom,I.nodef⟩,hv w' st'.heap g',h⟩
  ·rintro b' q (⟨h1,h2,h3⟩ | ⟨h1,_⟩) hlt
   ·subst h1
    exact I.can _ _ (hK q h2 (by rw [←hl];exact h3)).1 hlt
   ·exact I.can _ _ h1 hlt
  ·rcases hw with hw | hw
   ·exact I.can b' q hw hb0
   ·have:=I.fr.size;omega
 ·skip
  obtain ⟨cs,Ss,st1,g1,h,hl,T0,Tk1,hS⟩:=Xjs h I.good .refl Hus
  have h:=Xa4 h
  obtain ⟨r0,hr,h⟩:=Xh6 h
  obtain ⟨hfn,hc⟩:=hL f m _ r0 hm hr
  obtain ⟨c0,cs1,rfl⟩:∃ c0 cs1,cs=c0::cs1:=by
   cases cs with
   | nil=>split at h <;> first | contradiction | cases h
   | cons c0 cs1=>exact ⟨_,_,rfl⟩
  have hlen:Xgr (c0::cs1).length r0.out=true:=by
   split at h
   ·assumption
   ·cases h
  simp only [hlen] at h
  have hlen:=Xjj hlen
  have hN:=I.J.2
  have hbF:∀ k,(∃ x,st.heap[r]?.join=some x∧g.F r k)→∀ S,S∈Sa∨S∈Sb→¬S k:=by
   intro k ⟨x,hx1,hFk⟩ S hSab hk
   rw [hx] at hx1
   cases hx1
   obtain ⟨r',x',hne,hx',hF'⟩:=(hSab.elim (fun h=>Oa S h) (fun h=>Ob S h)) k hk
   exact I.good.rel.sep r _ r' x' k hx hx' (fun e=>hne e.symm) rfl hFk hF'
  have hwr:∀ b q,wr.can b q→C.E.N≤b:=fun b q h=>by
   rcases Nat.lt_or_ge b C.w0.heap.size with hlt | hge
   ·exact C.hwr b q (I.can b q h hlt)
   ·have:=C.hN;omega
  obtain ⟨d0,ds,hd⟩:∃ d0 ds,r0.out=d0::ds:=by
   cases hq:r0.out with
   | nil=>rw [hq] at hlen;cases hlen
   | cons d0 ds=>exact ⟨_,_,rfl⟩
  have hvt:∀ x,st1.heap[r]?.join=some x→x.ro=false∧x.virt=false∧x.box=true:=fun x hx1=>by
   obtain ⟨x0,hx0,f1,f2,f3,_⟩:=Tk1.less.flags r x hx1
   rw [hx] at hx0
   cases hx0
   exact ⟨f1.symm,f2.symm,f3.symm⟩
  rw [hd] at h
  obtain ⟨⟨v1,s1,q1⟩,hw1⟩:=Xcg h Tk1.good (fun x hx1 hv=>by rw [(hvt x hx1).2.1] at hv;cases hv)
  obtain ⟨rowsb,hback,_⟩:=Tk1.less.back _ _ _ _ _ hw1
  rw [hw0] at hback
  cases hback
  obtain ⟨x1,hx1,_⟩:=Yr hw1
  obtain ⟨g1ro,g1v,g1b⟩:=hvt x1 hx1
  have hFb:g1.F r b:=by
   have hroot:=Tk1.good.rel.root r x1 hx1
   simp only [Zu,g1v,g1b] at hroot
   obtain ⟨b1,o1,_,_,_,_,k1,_,_,_,_,k6,_⟩:=hroot
   rw [Y2 hx1] at hw1
   simp only [g1v,walk,Option.some.injEq,Prod.mk.injEq] at hw1
   rw [k1] at hw1
   simp only [Value.slice.injEq,Option.some.injEq,Addr.mk.injEq] at hw1
   rw [←hw1.1.1.1]
   exact k6
  have hwany:∀ w2:World,Yq w2 st1.heap g1 r []=some (.slice (some ⟨b,o0,none⟩) n0 c0',sz,q1):=fun w2=>by
   rw [Y2 hx1] at hw1 ⊢
   simp only [g1v,walk] at hw1 ⊢
   exact hw1
  have hSb:∀ S∈Ss,∀ k,S k→k≠b:=fun S hSS k hk e=>(Tk1.apart S hSS k hk).2 r x1 hx1 (e▸hFb)
  have hlow:∀ r x k,st.heap[r]?.join=some x→g.F r k→k<w.heap.size:=I.good.rel.low
  have hc:=hc va' (c0::cs1) vb' rfl (by rw [la,e2]) w b o wr.can arr e fz us vala valb Ss Sa Sb (hE▸I.J.1) (hE▸hN) (hE▸hwr) hb (by rw [hl];exact hsz) hcell (fun q h1 h2=>hK q h1 (by rw [hl] at h2;exact h2)) T0
   (fun S h k hk=>⟨(Tk1.apart S h k hk).1,hSb S h k hk⟩) Ta Tb (fun S hSab k hk=>⟨by
    obtain ⟨r',x',_,hx',hF'⟩:=(hSab.elim (fun h=>Oa S h) (fun h=>Ob S h)) k hk
    exact hlow r' x' k hx' hF',fun e=>hbF b ⟨_,hx,hF⟩ S hSab (e▸hk),fun S' hS' hk'=>hbF k (hS S' hS' k hk') S hSab hk⟩)
  refine ⟨hfn,hc.mono fun en w' ⟨v,us',Ss',arr',he,hv,F,hb',hc',T',hS'⟩=>?_⟩
  have hul':us'.length=(c0::cs1).length:=T'.len.trans hlen
  have hnW:∀ q,¬(o≤q∧q<o+(c0::cs1).length)→¬IoW b o (c0::cs1).length Ss wr.can b q:=by
   rintro q hq (⟨_,h1,h2⟩ | ⟨_,S,h1,h2⟩)
   ·exact hq ⟨h1,h2⟩
   ·exact hSb S h1 b h2 rfl
  obtain ⟨arr2,hb2,hs2,ho2⟩:=F.cells b arr e fz hb
  rw [hb'] at hb2
  cases hb2
  obtain ⟨w2,z1,z2,z3,z4⟩:=Xvp hb hb' hs2 (fun q hq=>ho2 q (hnW q (by omega))) hc' (by rw [hul',hl];exact hsz)
  have G2:Good w2 (wrUp wr w.heap.size) ts a.tmps.toList st1 g1:=by
   refine (Tk1.good.wr (Xha wr _)).aside2 (by rw [z1];exact F.size) fun k ⟨r',x',hx',hF'⟩=>?_
   by_cases hkb:k=b
   ·rw [hkb];exact z3
   ·rw [z2 k hkb]
    refine F.block k (Tk1.good.rel.low r' x' k hx' hF') ?_
    rintro q (⟨h1,_⟩ | ⟨_,S,h1,h2⟩)
    ·exact hkb h1
    ·exact (Tk1.apart S h1 k h2).2 r' x' hx' hF'
  have hand:Hand w2 (wrUp wr w.heap.size) st1.heap g1 false us' r0.out Ss':=by
   refine Hand.of (wr:=wrUp wr w.heap.size) (fun b q h=>h.elim .inr .inl) T' fun S hSS k hk=>?_
   obtain ⟨k1,k2,k3⟩:=hS' S hSS k hk
   refine ⟨z2 k k1,by rw [z1];exact k2,fun r' x' hx' hF'=>?_⟩
   obtain ⟨S0,hS0,hk0⟩:=k3 (Tk1.good.rel.low r' x' k hx' hF')
   exact (Tk1.apart S0 hS0 k hk0).2 r' x' hx' hF'
  rw [←hd] at h
  obtain ⟨st',g',h,G3,_⟩:=Xce (ex:=false) r0.out j us' Ss' st1 g1 w2 h G2 ⟨x1,hx1,g1ro,fun h=>by cases h⟩ ⟨q1,hwany w2⟩ hand
  rw [←ho,z4] at G3
  split at h
  case h_2=>cases h
  refine ⟨v,r0.val,st',_,g',he,⟨G3,I.fr.trans2 F ?_,fun b' q hw hb0=>?_,I.dom,I.nodef⟩,hv w' st'.heap g',h⟩
  ·rintro b' q (⟨h1,h2,h3⟩ | ⟨h1,_⟩) hlt
   ·subst h1
    exact I.can _ _ (hK q h2 (by rw [←hl];exact h3)).1 hlt
   ·exact I.can _ _ h1 hlt
  ·rcases hw with hw | hw
   ·exact I.can b' q hw hb0
   ·have:=I.fr.size;omega
end
end Go.Abs
namespace Go.Abs
section
variable {P:Program} {E:Env} {cfg:Cfg} {lv:Lev} {C:Ctx} {ts:List (List Value)} {w w':World} {a:Act} {st:St} {wr:Wrs} {g:Gh} {c:St→R} {res:Res} {o:Oper} {slot:Nat}
theorem Xou (hL:Xza P E cfg lv.pure) (hE:C.E=E) (I:Inv C ts w a st wr g) {f:FuncId} {args:List AV} {vals:List Value} {own:Bool} {lent:List AV} {k:AV→St→R} (hm:cfg.mode f=0) (H:ARs w Any vals args)
 (h:(bnd (lv.pure f args) fun res=>Xjd slot own lent res.val st k)=some res):FnOK P f∧Calls P f vals.toArray w (COut C ts a k res):=by
 obtain ⟨r,hr,h⟩:=Xh6 h
 obtain ⟨hf,hc⟩:=hL f args r hm hr
 refine ⟨hf,(hc w vals (hE▸I.J.1) (hE▸I.J.2) H).mono fun e w' ⟨v,he,F,T⟩=>?_⟩
 obtain ⟨av,st',wr',g',h1,h2,h3⟩:=Xqf h I F T
 exact ⟨v,av,st',wr',g',he,h2,h3,h1⟩
theorem Xrx (hT:Z2 P cfg.ty) (hL:LevOK P E cfg lv) (hE:C.E=E) (I:Inv C ts w a st wr g) {f:FuncId} {tys:List TypeId} {args:List AV} {vals:List Value} {k:AV→St→R} (H:VRs w st.heap g vals args)
 (h:Xu1 cfg lv slot f tys args st k=some res):FnOK P f∧Calls P f vals.toArray w (COut C ts a k res):=by
 unfold Xu1 at h
 split at h
 ·rename_i hm
  obtain ⟨l',h,H'⟩:=Xef I.good.rel h H
  exact Xou hL.pure hE I hm H' h
 ·obtain ⟨hf,hc⟩:=hL.inl f args st k res h
  exact ⟨hf,hc C ts w a wr g vals hE I H⟩
 ·rename_i hm
  exact X1d hT hL.io hL.io2 hE I hm H h
theorem Xry (hT:Z2 P cfg.ty) (hL:LevOK P E cfg lv) (hE:C.E=E) (I:Inv C ts w a st wr g) {f:FuncId} {tys:List TypeId} {args cap:List AV} {vals caps:List Value} {k:AV→St→R} (H:VRs w st.heap g vals args) (Hc:VRs w st.heap g caps cap)
 (h:Xu2 cfg lv slot f tys args cap st k=some res):FnOK P f∧Calls P f (vals++caps).toArray w (COut C ts a k res):=by
 unfold Xu2 at h
 split at h
 ·cases Hc
  rw [List.append_nil]
  exact Xrx hT hL hE I H h
 ·split at h
  ·rename_i hm
   obtain ⟨l1,h,H1⟩:=Xef I.good.rel h H
   obtain ⟨l2,h,H2⟩:=Xgc I.good.rel h Hc
   have h:=Xa4 h
   obtain ⟨r,hr,h⟩:=Xh6 h
   have h:=Xa4 h
   have hx:(bnd (lv.pure f (l1++l2)) fun res=>Xjd slot (cfg.own f) (args++cap) res.val st k)=some res:=by rw [hr,Xez];exact h
   exact Xou hL.pure hE I hm (H1.append H2.args) hx
  ·have h:=Xa4 h
   obtain ⟨hf,hc⟩:=hL.inl f _ st k res h
   exact ⟨hf,hc C ts w a wr g _ hE I (H.append Hc)⟩
theorem Xzd (hT:Z2 P cfg.ty) (hL:LevOK P E cfg lv) (hE:C.E=E) {cl:Call} {fo:Operand} {Q:Exit→Act→World→Prop} (ho:o.op=.call cl) (hb:cl.callee=.value fo) (h:evOp cfg lv slot o st c=some res) (I:Inv C ts w a st wr g) :
 o.wp P a w (Post C ts c res) Q:=by
 simp only [evOp,ho,hb] at h
 obtain ⟨vs,h,H⟩:=Xa8 I.good.env h
 obtain ⟨fv,h,Hf⟩:=Yd h I.good.env
 split at h
 ·rename_i f cap
  generalize hx:a.eval fo=vx at Hf
  cases Hf with
  | @fn _ caps _ Hc =>
  obtain ⟨hf,hc⟩:=Xry hT hL hE I H Hc h
  have e1:(cl.args.toList.map a.eval++caps).toArray=cl.args.map a.eval++caps.toArray:=by
   rw [←Array.toList_map];simp
  rw [e1] at hc
  have hrun:(execOp a.eval o).run P w=.ok (.enter f (cl.args.map a.eval++caps.toArray)) w:=by
   have e2:execOp a.eval o=(do let d ←resolve a.eval cl o.type;invoke d.target d.args):=by simp only [execOp,ho]
   rw [e2]
   simp only [resolve,hb,hx,Deferred.ofValue,Sem.run_bind,Sem.run_pure,Result.andThen_ok,invoke]
   have e3:(#[]:Array Value)++cl.args.map a.eval=cl.args.map a.eval:=by simp
   rw [e3]
   exact Xqe hf _ w
  unfold Oper.wp
  rw [hrun,Oper.upon_enter]
  refine hc.mono fun e w'' ⟨v,av,st',wr',g',he,I',H',hk⟩=>?_
  subst he
  exact I'.put hk H'
 ·cases h
def Xmm (a:Array Value) (x:ResultVar):Sem Value:=match x with
 | .tmp t=>pure (a.getD t undef)
 | .cell b t=>do loadVar t (←asAddr (a.getD b undef))
theorem Xtq (fn:Func) (tmps:Array Value):results fn tmps=(do
 let vs ←List.toArray <$> fn.results.toList.mapM (Xmm tmps)
 pure (if h:vs.size=1 then vs[0] else .tuple vs)):=by
 unfold results
 rw [Array.mapM_eq_mapM_toList]
 rfl
theorem Xh7 (hT:Z2 P cfg.ty) (I:Inv C ts w a st wr g):∀ {l:List ResultVar} {k:List AV→R},Xe7 cfg st l k=some res →
 ∃ us avs,k avs=some res∧(l.mapM (Xmm a.tmps)).run P w=.ok us w∧VRs w st.heap g us avs
 | [],k,h=>⟨[],[],h,rfl,.nil⟩
 | x::l,k,h=>by
   have one:∃ u av,(Xe7 cfg st l fun vs=>k (av::vs))=some res∧(Xmm a.tmps x).run P w=.ok u w∧VR w st.heap g u av:=by
    simp only [Xe7] at h
    split at h
    ·rename_i t
     obtain ⟨av,h1,h⟩:=Uq h
     obtain ⟨v,h2,h3⟩:=I.good.env.get h1
     rw [Array.getElem?_toList] at h2
     exact ⟨v,av,h,by simp [Xmm,h2],h3⟩
    ·rename_i b t
     obtain ⟨av,h1,h⟩:=Uq h
     obtain ⟨v,h2,h3⟩:=I.good.env.get h1
     rw [Array.getElem?_toList] at h2
     have hp:∃ ad,v=.pointer (some ad):=by
      cases h3 <;> simp only [U4] at h <;> first | (cases h;done) | exact ⟨_,rfl⟩
     obtain ⟨ad,rfl⟩:=hp
     obtain ⟨u,av',h4,h5,h⟩:=Xfb (P:=P) hT I.good.rel h h3
     refine ⟨u,av',h,?_,h5⟩
     simpa [Xmm,h2,Instr.loadAt,Instr.sureAddr,asAddr] using h4
   obtain ⟨u,av,h,h1,h2⟩:=one
   obtain ⟨us,avs,h,h3,h4⟩:=Xh7 hT I h
   exact ⟨u::us,av::avs,h,by simp [List.mapM_cons,h1,h3],.cons h2 h4⟩
theorem Xw6 {us:List Value} {avs:List AV} {h:Heap} {k:AV→R} (hh:one avs k=some res) (H:VRs w h g us avs):∃ av,k av=some res∧VR w h g (if h:us.toArray.size=1 then us.toArray[0] else .tuple us.toArray) av:=by
 unfold one at hh
 split at hh
 ·cases H with
  | cons h1 h2 =>
    cases h2
    exact ⟨_,hh,by simpa using h1⟩
 ·rename_i hn
  refine ⟨_,hh,?_⟩
  rw [dif_neg]
  ·exact .tup H
  ·intro hs
   have hl:=H.length
   cases avs with
   | nil=>simp at hl;subst hl;simp at hs
   | cons a0 avs =>
     cases avs with
     | nil=>exact hn a0 rfl
     | cons=>simp at hl hs;omega
theorem Xeh (hT:Z2 P cfg.ty) (hE:C.E=E) (hO:Xgv P E cfg lv) {f:FuncId} {fn:Func} (hf:P.funcs[f]?=some fn) (hD:∀ b,fn.body=some b→Xbx P E (Xpy cfg lv f) b) {args:List AV} {vals:List Value} {stk:List (List AV)} {h:Heap} {k:AV→St→R}
 (hh:body cfg lv f fn args stk h k=some res) (hlen:vals.length=args.length)
 (I:∀ n,Inv C ts w {tmps:=vals.toArray++Array.replicate n Go.undef,defers:=[]} ⟨args++List.replicate n .undef,stk,h⟩ wr g) :
 Calls P f vals.toArray w fun e w'=>∃ v av a' st' wr' g',e=.returned v∧Inv C ts w' a' st' wr' g'∧VR w' st'.heap g' v av∧k av st'=some res:=by
 unfold body at hh
 split at hh
 ·cases hh
 ·rename_i b hb
  have hh:=Xtc hh
  have hh:=Xa4 hh
  have hev:=Xy4 (f:=f) hE hO Xy6 b (hD b hb) _ _ res {tmps:=vals.toArray++Array.replicate (fn.ntmps - args.length) Go.undef,defers:=[]} w hh ⟨wr,g,I _⟩
  refine calls_of_wp hf hb ?_
  have e1:vals.toArray.size=args.length:=by simpa using hlen
  rw [e1]
  refine wp_mono hev fun e a' w' hp=>?_
  obtain ⟨st',h1,wr',g',I'⟩:=hp
  have fin:(Xe7 cfg st' fn.results.toList fun vs=>one vs fun v=>k v st')=some res→a'.defers=[]∧∃ v,(results fn a'.tmps).run P w'=.ok v w'∧∃ v' av a'' st' wr' g',Ending.returned v=.returned v'∧Inv C ts w' a'' st' wr' g'∧VR w' st'.heap g' v' av∧k av st'=some res:=by
   intro h2
   obtain ⟨us,avs,h3,h4,h5⟩:=Xh7 hT I' h2
   obtain ⟨av,h6,h7⟩:=Xw6 h3 h5
   refine ⟨I'.nodef,_,?_,_,av,a',st',wr',g',rfl,I',h7,h6⟩
   rw [Xtq]
   simp [h4]
  cases e with
  | normal=>exact fin h1
  | ret=>exact fin h1
  | exit id=>simp at h1
  | goto l=>simp at h1
  | panic ch=>simp at h1
  | outgrown=>simp at h1
end
end Go.Abs
namespace Go.Abs
section
variable {P:Program} {cfg:Cfg} {lv:Lev} {C:Ctx} {ts:List (List Value)} {w w':World} {a:Act} {st:St} {wr:Wrs} {g:Gh} {c:St→R} {res:Res} {o:Oper} {slot:Nat}
theorem X1e {ex:Bool} {tm:List Value} {h0:Heap} {g0:Gh} {l:List AV} {us:List Value} {k:List AV→St→R} (h:U9 ex ex 0 l st k=some res) (G:Good w wr ts tm st g) (L:Less w h0 g0 st.heap g) (hs:ex=true→st.heap=h0∧g=g0) (H:VRs w h0 g0 us l) :
 ∃ cs Ss st' g',k cs st'=some res∧Ins w wr ts tm ex us st g cs Ss st' g'∧(ex=true→st'=st∧g'=g):=by
 cases ex with
 | true =>
   obtain ⟨e1,e2⟩:=hs rfl
   subst e1 e2
   obtain ⟨cs,Ss,h,I⟩:=Xcf G h H
   exact ⟨cs,Ss,st,g,h,I,fun _=>⟨rfl,rfl⟩⟩
 | false =>
   obtain ⟨cs,Ss,st',g',h,I⟩:=Q1 h G L H
   exact ⟨cs,Ss,st',g',h,I,fun h=>nomatch h⟩
theorem Grid.move {ex:Bool} {sz:Nat} {rows:Rows} {cs:Array Value} {f:Nat→Nat→BS} {h h':Heap} {g g':Gh} (D:Grid w wr h g ex sz rows cs f) (L:Less w h g h' g') (hs:ex=true→h'=h∧g'=g):Grid w wr h' g' ex sz rows cs f:=by
 refine ⟨D.len,fun i j row a hr ha=>⟨(D.cell i j row a hr ha).1,fun hx=>?_⟩,fun i j k hk=>⟨(D.apart i j k hk).1,fun r x hx hF=>?_⟩,D.own⟩
 ·obtain ⟨he,hv⟩:=(D.cell i j row a hr ha).2 hx
  obtain ⟨e1,e2⟩:=hs he
  subst e1 e2
  exact ⟨he,hv⟩
 ·obtain ⟨x1,hx1,_,_,_,hf⟩:=L.flags r x hx
  exact (D.apart i j k hk).2 r x1 hx1 (hf k hF)
theorem Grid.set1 {ex:Bool} {sz:Nat} {rows:Rows} {cs:Array Value} {f:Nat→Nat→BS} {h:Heap} {g:Gh} (D:Grid w wr h g ex sz rows cs f) (hsz:rows.length*sz=cs.size) {i j:Nat} {row:List AV} {u:Value} {av:AV} {S:BS} (hi:rows[i]?=some row) (hj:j<row.length)
 (h1:isX av=false→TR w true (Kr w wr false) S u av) (h2:isX av=true→ex=true∧VR w h g u av) (h3:∀ k,S k→k<w.heap.size∧∀ r x,h[r]?.join=some x→¬g.F r k) (h4:∀ i' j' k,f i' j' k→¬S k) :
 Grid w wr h g ex sz (rows.set i (row.set j av)) (cs.setIfInBounds (i*sz+j) u) (fun i' j'=>if i'=i∧j'=j then S else f i' j'):=by
 have hil:i<rows.length:=(List.getElem?_eq_some_iff.1 hi).1
 have hjs:j<sz:=by rw [←D.len row (mem_get hi)];exact hj
 have hq:i*sz+j<cs.size:=by
  rw [←hsz]
  have:=Q0 (o:=0) hil (Nat.le_refl _) hjs
  omega
 refine ⟨Xed hi D.len,fun i' j' row' a' hr ha=>?_,fun i' j' k hk=>?_,fun i1 j1 i2 j2 k k1 k2=>?_⟩
 ·by_cases e:i'=i∧j'=j
  ·obtain ⟨rfl,rfl⟩:=e
   rw [List.getElem?_set_self hil] at hr
   cases hr
   rw [List.getElem?_set_self hj] at ha
   cases ha
   simp only [and_self,if_true]
   rw [Xec hq]
   exact ⟨h1,h2⟩
  ·simp only [if_neg e]
   have hold:∃ row0,rows[i']?=some row0∧row0[j']?=some a':=by
    by_cases e3:i=i'
    ·subst e3
     rw [List.getElem?_set_self hil] at hr
     cases hr
     have e4:j≠j':=fun e4=>e ⟨rfl,e4.symm⟩
     rw [List.getElem?_set_ne e4] at ha
     exact ⟨row,hi,ha⟩
    ·rw [List.getElem?_set_ne e3] at hr
     exact ⟨row',hr,ha⟩
   obtain ⟨row0,h5,h6⟩:=hold
   have hj':j'<sz:=by rw [←D.len row0 (mem_get h5)];exact (List.getElem?_eq_some_iff.1 h6).1
   rw [Xp1 (fun e5=>e (Xpz hj' hjs e5))]
   exact D.cell i' j' row0 a' h5 h6
 ·split at hk
  ·exact h3 k hk
  ·exact D.apart _ _ k hk
 ·split at k1 <;> split at k2
  ·rename_i e1 e2;exact ⟨e1.1.trans e2.1.symm,e1.2.trans e2.2.symm⟩
  ·exact absurd k1 (h4 _ _ k k2)
  ·exact absurd k2 (h4 _ _ k k1)
  ·exact D.own _ _ _ _ k k1 k2
theorem Xh8 {rows:Rows} {i j:Nat} {row:List AV} {av:AV}:(rows.set i (row.set j av)).length=rows.length:=by simp
theorem Grid.sets {ex:Bool} {sz i:Nat} {h:Heap} {g:Gh}:∀ {us:List Value} {l:List AV} {Ss:List BS} {rows:Rows} {cs:Array Value} {f:Nat→Nat→BS} {j:Nat} {k:Rows→R},setCells rows i j l k=some res→Grid w wr h g ex sz rows cs f→rows.length*sz=cs.size→Hand w wr h g ex us l Ss →
 (∀ S∈Ss,∀ i' j' k,f i' j' k→¬S k)→∃ rows' cs' f',k rows'=some res∧Grid w wr h g ex sz rows' cs' f'∧rows'.length=rows.length∧cs'.toList=Xh0 cs.toList (i*sz+j) us∧(us≠[]→j+us.length≤sz∧i<rows.length)∧(∀ i' j' k,f' i' j' k→f i' j' k∨∃ S∈Ss,S k)
 | _,_,_,rows,cs,f,j,k,hh,D,_,.nil,_=>⟨rows,cs,f,hh,D,rfl,rfl,fun h=>absurd rfl h,fun _ _ _ h=>.inl h⟩
 | _,_,_,rows,cs,f,j,k,hh,D,hsz,.cons (Ss:=Ss) h1 h2 h3 h4 h5,hS=>by
   simp only [setCells] at hh
   obtain ⟨row,hi,hj,hh⟩:=Xf9 hh
   have D':=D.set1 hsz hi hj h1 h2 h3 (fun i' j' k hk=>hS _ (by simp) i' j' k hk)
   obtain ⟨rows',cs',f',e1,e2,e3,e4,e5,e6⟩:=Grid.sets hh D' (by rw [Xh8,Array.size_setIfInBounds];exact hsz) h5 (fun S' hS' i' j' k hk=>by
    split at hk
    ·exact h4 S' hS' k hk
    ·exact hS S' (by simp [hS']) i' j' k hk)
   have hjs:j<sz:=by rw [←D.len row (mem_get hi)];exact hj
   refine ⟨rows',cs',f',e1,e2,by rw [e3,Xh8],?_,fun _=>?_,fun i' j' k hk=>?_⟩
   ·rw [e4]
    simp [Xh0,Nat.add_assoc]
   ·have hil:=(List.getElem?_eq_some_iff.1 hi).1
    refine ⟨?_,hil⟩
    cases h5 with
    | nil=>simp;omega
    | cons=>have:=(e5 (by simp)).1;simp at this ⊢;omega
   ·rcases e6 i' j' k hk with h | ⟨S',hS',hk'⟩
    ·split at h
     ·exact .inr ⟨_,by simp,h⟩
     ·exact .inl h
    ·exact .inr ⟨S',by simp [hS'],hk'⟩
theorem Xer {ex:Bool} {tm:List Value} {sz:Nat} {h0:Heap} {g0:Gh} (hpos:0<sz) (R0:Rel w wr h0 g0):∀ {l:List (Nat×Value)} {m:List (Nat×AV)} {rows:Rows} {cs:Array Value} {f:Nat→Nat→BS} {st:St} {g:Gh} {k:Rows→St→R},
 Xb2 ex sz m rows st k=some res→PartsR w h0 g0 l m→Good w wr ts tm st g→Less w h0 g0 st.heap g→(ex=true→st.heap=h0∧g=g0)→Grid w wr st.heap g ex sz rows cs f→rows.length*sz=cs.size →
 ∃ rows' cs' f' st' g',k rows' st'=some res∧Good w wr ts tm st' g'∧Grid w wr st'.heap g' ex sz rows' cs' f'∧rows'.length=rows.length∧rows'.length*sz=cs'.size∧Instr.fill (fun i=>some (i*sz,sz)) cs l=some cs'
 | [],_,rows,cs,f,st,g,k,hh,.nil,G,_,_,D,hsz=>⟨rows,cs,f,st,g,hh,G,D,rfl,hsz,rfl⟩
 | (i,v)::l,(_,av)::m,rows,cs,f,st,g,k,hh,.cons h1 h2,G,L,hs,D,hsz=>by
   simp only [Xb2] at hh
   obtain ⟨pl,hh,hv,hpl,hvn,_⟩:=Xbw R0 hh h1
   obtain ⟨cl,Ss,st1,g1,hh,Is,same⟩:=X1e hh G L hs hv
   have D1:=D.move Is.less (fun he=>by obtain ⟨e1,e2⟩:=same he;subst e1 e2;exact ⟨rfl,rfl⟩)
   obtain ⟨rows1,cs1,f1,hh,D2,e3,e4,e5,e6⟩:=Grid.sets hh D1 hsz Is.hand (fun S hS i' j' k hk hk'=>by
    obtain ⟨r,x,hx,_,hF⟩:=Is.was S hS k hk'
    exact (D.apart i' j' k hk).2 r x hx hF)
   have hsz1:cs1.size=cs.size:=by
    rw [←Array.length_toList,e4,Xh1,Array.length_toList]
   obtain ⟨rows2,cs2,f2,st2,g2,k1,k2,k3,k4,k5,k6⟩:=Xer hpos R0 hh h2 Is.good (L.trans Is.less) (fun he=>by
    obtain ⟨a1,a2⟩:=same he
    obtain ⟨a3,a4⟩:=hs he
    subst a1 a2
    exact ⟨a3,a4⟩) D2 (by rw [e3,hsz1];exact hsz)
   refine ⟨rows2,cs2,f2,st2,g2,k1,k2,k3,by rw [k4,e3],k5,?_⟩
   simp only [Instr.fill]
   have hne:v.cells.toList≠[]:=fun e=>by
    have:v.cells.size=0:=by rw [←Array.length_toList,e];rfl
    omega
   obtain ⟨hb1,hb2⟩:=e5 hne
   rw [Array.length_toList,hvn] at hb1
   have hbound:i*sz+v.cells.size≤cs.size:=by
    rw [←hsz,hvn]
    have:(i+1)*sz≤rows.length*sz:=Nat.mul_le_mul_right _ (by omega)
    rw [Nat.succ_mul] at this
    exact this
   have hcs:(v.cells.zipIdx.foldl (fun cs (x:Value×Nat)=>cs.setIfInBounds (i*sz+x.2) x.1) cs)=cs1:=by
    apply Array.toList_inj.1
    rw [e4,←Array.foldl_toList,Array.toList_zipIdx]
    simpa using Xfc (i*sz) v.cells.toList 0 cs
   rw [if_neg]
   ·have:=k6
    rw [←hcs] at this
    exact this
   ·simp only [ne_eq,Bool.or_eq_true,decide_eq_true_eq,not_or,Decidable.not_not]
    exact ⟨hvn,by omega⟩
theorem Xtr {n:Nat} {z:List AV} {k:Rows→R} (h:Xs8 n z k=some res):k (List.replicate n z)=some res:=by
 induction n generalizing k with
 | zero=>exact h
 | succ n ih=>simpa [List.replicate_succ] using ih h
theorem Xnq (hT:Z2 P cfg.ty) {t:TypeId} {n:Nat} {ps:Array (Nat×Operand)} {Q:Exit→Act→World→Prop} (ho:o.op=.buildSlice t n ps) (h:evOp cfg lv slot o st c=some res) (I:Inv C ts w a st wr g):o.wp P a w (Post C ts c res) Q:=by
 simp only [evOp,ho] at h
 obtain ⟨ti,hti,h⟩:=Y1 h
 obtain ⟨d,hd,hsh⟩:=(hT _ hti).run (w:=w)
 simp only at hd hsh
 split at h
 ·rename_i e hs
  rw [hs] at hsh
  simp only [ShOK] at hsh
  subst hsh
  obtain ⟨tj,htj,h⟩:=Y1 h
  obtain ⟨m,h,hm⟩:=Xfd I.good.env h
  split at h
  ·cases h
  ·rename_i hsmall
   simp only [decide_eq_true_eq] at hsmall
   have h:=Xtr h
   obtain ⟨ii,z,hi1,hi2,hi3,hi4,hzc,_,_⟩:=(hT _ htj).zeros
   have hpos:=(hT _ htj).pos
   simp only at hi1 hi2 hi3 hzc hpos
   have e1:(ps.map fun (i,x)=>(i,a.eval x)).toList=ps.toList.map fun x=>(x.1,a.eval x.2):=by simp
   have fin:∀ ex:Bool,(Xb2 ex tj.size m (List.replicate n tj.zero) st fun rows st=>V0 st slot ⟨false,false,ex,tj.size,rows⟩ fun st=>putD st o.dst (.ref slot []) c)=some res→o.wp P a w (Post C ts c res) Q:=by
    intro ex h
    have D:=Xol (w:=w) (wr:=wr) (g:=g) (hT _ htj) (h:=st.heap) hi1 hi4 n n (Nat.le_refl _) ex
    obtain ⟨rows',cs',f',st',g',h,G',D',k4,k5,k6⟩:=Xer hpos I.good.rel h hm I.good .refl (fun _=>⟨rfl,rfl⟩) D (by simp)
    obtain ⟨hsl,h⟩:=W2 h
    simp only [List.length_replicate] at k4
    obtain ⟨g2,k7,k8,_⟩:=G'.block (e:=e) hsl n D' (by omega) (by rw [←k5,k4];exact Nat.le_refl _) (fun _=>k4.symm) hpos
    rw [k4] at k8
    have I':Inv C ts w a st' wr g':=⟨G',I.fr,I.can,I.dom,I.nodef⟩
    refine Zs (s:=Instr.buildSlice t n (ps.map fun (i,x)=>(i,a.eval x))) (v:=.slice (some ⟨w.heap.size,0,none⟩) n n) (by simp only [execOp,ho]) ?_ ((I'.alloc k7).put h (.ref k8))
    by_cases h0:n*tj.size=0
    ·have e2:cs'=#[]:=by
      have:cs'.size=0:=by rw [←k5,k4];exact h0
      exact Array.eq_empty_of_size_eq_zero this
     subst e2
     have e3:((Array.range (n*tj.size)).map (z.cells[· % z.cells.size]!))=#[]:=by simp [h0]
     rw [e3] at k6
     have hn:n=0:=by
      rcases Nat.mul_eq_zero.1 h0 with h | h
      ·exact h
      ·omega
     subst hn
     simp [Instr.buildSlice,hd,sizeOf,typeInfo,hi1,newRow,hi2]
     have e5:(Array.map (fun (_:Nat)=>(default:Value)) (Array.range 0))=#[]:=by simp
     rw [e5,k6]
     simp
    ·have hi2':ii.size=tj.size:=hi2
     have:=run_buildSlice (P:=P) w t e n (ps.map fun (i,x)=>(i,a.eval x)) cs' ii z (by
      obtain ⟨d',hd',hs'⟩:=(hT _ hti).under
      simp only [hs,ShOK] at hd' hs'
      subst hs'
      exact hd') hi1 hi4 (by rw [hi2'];omega) (by rw [hi2'];exact h0) (by rw [hi2',e1];exact k6)
     exact this
   split at h
   ·exact fin true h
   ·exact fin false h
 ·cases h
end
end Go.Abs
namespace Go.Abs
section
variable {P:Program} {cfg:Cfg} {lv:Lev} {C:Ctx} {ts:List (List Value)} {w w':World} {a:Act} {st:St} {wr:Wrs} {g:Gh} {c:St→R} {res:Res} {o:Oper} {slot:Nat}
theorem Xrz {rows:Rows} (h:Xpp rows=true):∀ row∈rows,∃ n,row=[.int .u8 n]:=by
 intro row hr
 have:=List.all_eq_true.1 h row hr
 split at this
 ·exact ⟨_,rfl⟩
 ·cases this
theorem TR.bytes {own:Bool} {K:CS} {S:BS} {v:Value} {rows:Rows} (T:TR w own K S v (.lst 1 rows)) (hb:Xpp rows=true) {src dst e:TypeId} (hs:P.underlying src=some (.slice e)) (he:P.underlying e=some (.int .u8)) (hd:P.underlying dst=some .string) :
 (convert src dst v).run P w=.ok (.string (Xpq (nums rows))) w:=by
 rcases T.lst_inv with ⟨rfl,aa,rfl⟩ | ⟨b,o,c,cs,e',fz,f,rfl,hb',hs',hc,hl,hK,hS,hf,hd',hcell⟩
 ·cases aa with
  | none=>exact run_convert_bytes_nil w src e hs he 0 0 dst hd
  | some ad =>
    rw [run_convert_bytes_string w src dst e _ 0 0 hs he hd]
    have:=run_bytesToString (P:=P) w ad 0 0 [] (by simpa using run_loadCells_list (P:=P) w ad [] (fun j v hj=>by simp at hj))
    have e0:Xpq (nums [])=ByteArray.empty:=rfl
    rw [e0]
    simpa using this
 ·have:=run_convert_bytes_arg (P:=P) w src e hs he b o rows.length c (nums rows) (by simp [nums]) (fun i hi=>by
   have hr:rows[i]?=some rows[i]:=List.getElem?_eq_getElem hi
   obtain ⟨n,hn⟩:=Xrz hb _ (mem_get hr)
   have hcl:=hcell i 0 rows[i] (.int .u8 n) hr (by rw [hn];rfl)
   have hq:o+i<cs.size:=by omega
   have e1:cs.getD (o+i*1+0) default=.int .u8 n:=by
    generalize cs.getD (o+i*1+0) default=x at hcl
    cases hcl
    rfl
   rw [Wj hb']
   have e2:cs[o+i]?=some (cs.getD (o+i) default):=by simp [Array.getD_eq_getD_getElem?,hq]
   rw [e2]
   simp only [Nat.mul_one,Nat.add_zero] at e1
   rw [e1]
   have e3:(nums rows).getD i 0=n:=by
    simp [nums,List.getD_eq_getElem?_getD,hi,hn]
   rw [e3]) dst hd
  exact this
theorem Xts (hT:Z2 P cfg.ty) {s d:TypeId} {x:Operand} {Q:Exit→Act→World→Prop} (ho:o.op=.convert s d x) (h:evOp cfg lv slot o st c=some res) (I:Inv C ts w a st wr g):o.wp P a w (Post C ts c res) Q:=by
 simp only [evOp,ho] at h
 obtain ⟨ti,hti,h⟩:=Y1 h
 obtain ⟨av,h,H⟩:=Yd h I.good.env
 unfold Xxx at h
 obtain ⟨tj,htj,h⟩:=Y1 h
 obtain ⟨d1,hd1,hsh1⟩:=(hT _ hti).under
 obtain ⟨d2,hd2,hsh⟩:=(hT _ htj).under
 simp only at hd1 hd2 hsh1 hsh
 split at h
 ·rename_i kd kd' n hs _
  rw [hs] at hsh
  simp only [ShOK] at hsh
  subst hsh
  generalize hx:a.eval x=vx at H
  cases H
  refine Zs (s:=convert s d (a.eval x)) (v:=.int kd (kd.wrap n)) (w':=w) (by simp only [execOp,ho]) ?_ (I.put h (.int _ _))
  rw [hx]
  simp only [convert,Sem.run_bind,run_underlying hd1,run_underlying hd2,Result.andThen_ok]
  rfl
 ·rename_i e s' hs _
  rw [hs] at hsh
  simp only [ShOK] at hsh
  subst hsh
  split at h
  ·rename_i hs1
   rw [hs1] at hsh1
   simp only [ShOK] at hsh1
   subst hsh1
   obtain ⟨te,hte,h⟩:=Y1 h
   obtain ⟨de,hde,hshe⟩:=(hT _ hte).under
   simp only at hde hshe
   split at h
   ·rename_i hse
    rw [hse] at hshe
    simp only [ShOK] at hshe
    subst hshe
    generalize hx:a.eval x=vx at H
    cases H
    obtain ⟨hsl,h⟩:=W2 h
    have hrun:=run_bytes_of_string (P:=P) w s d e s' hd1 hd2 hde
    have Gd:=(Xko (w:=w.drew) (K:=Kr w.drew wr false) s').grid (h:=st.heap) (g:=g) (fun _ h=>h.elim) (Array.replicate (grownCap w s'.size 0 e - s'.size) (.int .u8 0))
    have ecs:(byteCells s').toArray++Array.replicate (grownCap w s'.size 0 e - s'.size) (Value.int .u8 0)=bytesRow s' (grownCap w s'.size 0 e):=by
     apply Array.toList_inj.1
     simp [byteCells,bytesRow]
    rw [ecs] at Gd
    have hcap:=grownCap_ge w s'.size 0 e
    have hsize:(bytesRow s' (grownCap w s'.size 0 e)).size=grownCap w s'.size 0 e:=by
     simp only [bytesRow,Array.size_append,Array.size_map,Array.size_replicate]
     show s'.size+_=_
     omega
    have hlen:(List.map (fun b=>[AV.int IntKind.u8 (b.toNat:Int)]) s'.data.toList).length=s'.size:=by rw [List.length_map,Array.length_toList];rfl
    obtain ⟨g',k1,k2,_⟩:=(Good.heap (w:=w) (w':=w.drew) rfl I.good).blockF (e:=e) hsl (grownCap w s'.size 0 e) ((bytesRow s' (grownCap w s'.size 0 e)).size,(bytesRow s' (grownCap w s'.size 0 e)).size+1) (fun q hq=>by rw [hsize];simp only;omega) Gd (by rw [hlen];exact hcap) (by rw [hsize];omega) (fun h=>by cases h) (by decide)
    rw [hlen] at k2
    refine Zs (s:=convert s d (a.eval x)) (by simp only [execOp,ho]) (by rw [hx];exact hrun) ?_
    have I':Inv C ts w.drew a st wr g:=I.drew
    exact (I'.alloc k1).put h (.ref k2)
   ·cases h
  ·cases h
 ·rename_i hs _
  rw [hs] at hsh
  simp only [ShOK] at hsh
  subst hsh
  split at h
  ·rename_i e hs1
   rw [hs1] at hsh1
   simp only [ShOK] at hsh1
   subst hsh1
   obtain ⟨te,hte,h⟩:=Y1 h
   obtain ⟨de,hde,hshe⟩:=(hT _ hte).under
   simp only at hde hshe
   split at h
   ·rename_i hse
    rw [hse] at hshe
    simp only [ShOK] at hshe
    subst hshe
    obtain ⟨av',h,T⟩:=VR.closed I.good.rel h H
    split at h
    ·split at h
     ·rename_i h1
      simp only [decide_eq_true_eq] at h1
      subst h1
      rcases Z7 h with ⟨hb,h⟩ | ⟨_,h⟩
      ·exact Zs (s:=convert s d (a.eval x)) (by simp only [execOp,ho]) (TR.bytes T hb hd1 hde hd2) (I.put h (.str _))
      ·cases h
     ·cases h
    ·cases h
   ·cases h
  ·cases h
 ·cases h
end
end Go.Abs
namespace Go.Abs
theorem Xhc (e:List AV) (x:Operand):(∀ k,opnd e x k=none)∨∃ a,∀ k,opnd e x k=k a:=by
 cases x with
 | tmp t =>
   simp only [opnd]
   induction e generalizing t with
   | nil=>exact .inl fun _=>rfl
   | cons a l ih=>cases t with
     | zero=>exact .inr ⟨a,fun _=>rfl⟩
     | succ t=>exact ih t
 | const v =>
   cases v <;> first
    | exact .inr ⟨_,fun _=>rfl⟩
    | exact .inl fun _=>rfl
    | skip
   case pointer a=>cases a with
    | none=>exact .inr ⟨_,fun _=>rfl⟩
    | some a=>exact .inl fun _=>rfl
   case slice a l c =>
    cases a with
    | some a=>exact .inl fun _=>rfl
    | none=>cases l with
      | succ l=>exact .inl fun _=>rfl
      | zero=>cases c with
        | succ c=>exact .inl fun _=>rfl
        | zero=>exact .inr ⟨.emp,fun _=>rfl⟩
 | func f=>exact .inr ⟨_,fun _=>rfl⟩
 | global g=>exact .inl fun _=>rfl
theorem Xfl (e:List AV):∀ (l:List Operand),(∀ k,Xbo e l k=none)∨∃ a,∀ k,Xbo e l k=k a
 | []=>.inr ⟨[],fun _=>rfl⟩
 | x::l=>by
   rcases Xhc e x with h | ⟨a,h⟩
   ·exact .inl fun k=>by simp only [Xbo,h]
   ·rcases Xfl e l with h2 | ⟨b,h2⟩
    ·exact .inl fun k=>by simp only [Xbo,h,h2]
    ·exact .inr ⟨a::b,fun k=>by simp only [Xbo,h,h2]⟩
theorem Qm (l:List (TypeId×TInfo)) (t:TypeId):(∀ k,tyK l t k=none)∨∃ a,∀ k,tyK l t k=k a:=by
 induction l with
 | nil=>exact .inl fun _=>rfl
 | cons a l ih =>
   obtain ⟨t',x⟩:=a
   by_cases h:t'=t
   ·exact .inr ⟨x,fun k=>by simp only [tyK,if_pos h]⟩
   ·rcases ih with h2 | ⟨b,h2⟩
    ·exact .inl fun k=>by simp only [tyK,if_neg h,h2]
    ·exact .inr ⟨b,fun k=>by simp only [tyK,if_neg h,h2]⟩
theorem Xhd (l:List AV) (n:Nat):(∀ k,getE l n k=none)∨∃ a,∀ k,getE l n k=k a:=by
 induction l generalizing n with
 | nil=>exact .inl fun _=>rfl
 | cons a l ih=>cases n with
   | zero=>exact .inr ⟨a,fun _=>rfl⟩
   | succ n=>exact ih n
theorem Xei (l:Rows) (n:Nat):(∀ k,Z6 l n k=none)∨∃ a,∀ k,Z6 l n k=k a:=by
 induction l generalizing n with
 | nil=>exact .inl fun _=>rfl
 | cons a l ih=>cases n with
   | zero=>exact .inr ⟨a,fun _=>rfl⟩
   | succ n=>exact ih n
theorem Xtt (l:Heap) (n:Nat):(∀ k,getH l n k=none)∨∃ a,∀ k,getH l n k=k a:=by
 induction l generalizing n with
 | nil=>exact .inl fun _=>rfl
 | cons a l ih=>cases n with
   | zero=>cases a with
     | none=>exact .inl fun _=>rfl
     | some x=>exact .inr ⟨x,fun _=>rfl⟩
   | succ n=>exact ih n
theorem Xtu (p:Path):∀ (sz:Nat) (rows:Rows),(∀ k,Xdm p sz rows k=none)∨∃ a b,∀ k,Xdm p sz rows k=k a b:=by
 induction p with
 | nil=>exact fun sz rows=>.inr ⟨sz,rows,fun _=>rfl⟩
 | cons q p ih =>
   intro sz rows
   obtain ⟨i,j⟩:=q
   rcases Xei rows i with h | ⟨row,h⟩
   ·exact .inl fun k=>by simp only [Xdm,h]
   ·rcases Xhd row j with h2 | ⟨v,h2⟩
    ·exact .inl fun k=>by simp only [Xdm,h,h2]
    ·cases v with
     | lst sz' rows' =>
       rcases ih sz' rows' with h3 | ⟨a,b,h3⟩
       ·exact .inl fun k=>by simp only [Xdm,h,h2,h3]
       ·exact .inr ⟨a,b,fun k=>by simp only [Xdm,h,h2,h3]⟩
     | _=>exact .inl fun k=>by simp only [Xdm,h,h2]
theorem Uz (h:Heap) (r:Nat) (p:Path):(∀ k,nav h r p k=none)∨∃ x a b,∀ k,nav h r p k=k x a b:=by
 rcases Xtt h r with h1 | ⟨x,h1⟩
 ·exact .inl fun k=>by simp only [nav,h1]
 ·rcases Xtu p x.sz x.rows with h2 | ⟨a,b,h2⟩
  ·exact .inl fun k=>by simp only [nav,Xpn,h1,h2]
  ·exact .inr ⟨x,a,b,fun k=>by simp only [nav,Xpn,h1,h2]⟩
theorem Xfm (n:Nat):∀ (l:List AV),(∀ k,Xgq n l k=none)∨∃ a,∀ k,Xgq n l k=k a:=by
 induction n with
 | zero=>exact fun l=>.inr ⟨l,fun _=>rfl⟩
 | succ n ih=>intro l;cases l with
   | nil=>exact .inl fun _=>rfl
   | cons a l=>exact ih l
theorem Xov (n:Nat):∀ (l:List AV),(∀ k,cut n l k=none)∨∃ a b,∀ k,cut n l k=k a b:=by
 induction n with
 | zero=>exact fun l=>.inr ⟨[],l,fun _=>by simp [cut]⟩
 | succ n ih=>intro l;cases l with
   | nil=>exact .inl fun _=>rfl
   | cons a l =>
     rcases ih l with h | ⟨x,y,h⟩
     ·exact .inl fun k=>by simp only [cut,h]
     ·exact .inr ⟨a::x,y,fun k=>by simp only [cut,h]⟩
theorem Xtv (p:Path) (i j:Nat):∃ a,∀ k,snoc p i j k=k a:=by
 induction p with
 | nil=>exact ⟨_,fun _=>rfl⟩
 | cons a p ih=>obtain ⟨q,h⟩:=ih;exact ⟨a::q,fun k=>by simp only [snoc,h]⟩
theorem Xfn (r:Nat) (p:Path) (i j:Nat) (v:AV):(∀ k,Qs r p i j v k=none)∨∃ a,∀ k,Qs r p i j v k=k a:=by
 cases v <;> first
  | exact .inl fun _=>rfl
  | exact .inr ⟨_,fun _=>rfl⟩
  | skip
 obtain ⟨q,h⟩:=Xtv p i j
 exact .inr ⟨.ref r q,fun k=>by simp only [Qs,h]⟩
theorem Xr0 (r:Nat) (p:Path) (i:Nat) (n:Nat):∀ (j:Nat) (l:List AV),(∀ k,Xe0 r p i n j l k=none)∨∃ a,∀ k,Xe0 r p i n j l k=k a:=by
 induction n with
 | zero=>exact fun j l=>.inr ⟨[],fun _=>by simp [Xe0]⟩
 | succ n ih=>intro j l;cases l with
   | nil=>exact .inl fun _=>rfl
   | cons v l =>
     rcases Xfn r p i j v with h | ⟨a,h⟩
     ·exact .inl fun k=>by simp only [Xe0,h]
     ·rcases ih (j+1) l with h2 | ⟨b,h2⟩
      ·exact .inl fun k=>by simp only [Xe0,h,h2]
      ·exact .inr ⟨a::b,fun k=>by simp only [Xe0,h,h2]⟩
theorem Xr1 (cfg:Cfg) (t:TypeId) (h:Heap) (a:AV):(∀ k,U4 cfg t h a k=none)∨∃ v,∀ k,U4 cfg t h a k=k v:=by
 cases a <;> first
  | exact .inl fun _=>rfl
  | skip
 rename_i r p i j
 rcases Uz h r p with h1 | ⟨x,sz,rows,h1⟩
 ·exact .inl fun k=>by simp only [U4,h1]
 ·rcases Xei rows i with h2 | ⟨row,h2⟩
  ·exact .inl fun k=>by simp only [U4,h1,h2]
  ·rcases Xfm j row with h3 | ⟨row',h3⟩
   ·exact .inl fun k=>by simp only [U4,h1,h2,h3]
   ·rcases Qm cfg.ty t with h4 | ⟨ti,h4⟩
    ·exact .inl fun k=>by simp only [U4,h1,h2,h3,h4]
    ·by_cases hs:∃ fs,ti.shape=.struct fs
     ·obtain ⟨fs,hs⟩:=hs
      rcases Xr0 r p i ti.size j row' with h5 | ⟨vs,h5⟩
      ·exact .inl fun k=>by simp only [U4,h1,h2,h3,h4,hs,h5]
      ·exact .inr ⟨.agg vs,fun k=>by simp only [U4,h1,h2,h3,h4,hs,h5]⟩
     ·cases row' with
      | nil =>
        refine .inl fun k=>?_
        simp only [U4,h1,h2,h3,h4]
        split
        ·rename_i fs hf;exact absurd ⟨fs,hf⟩ hs
        ·rfl
      | cons v l =>
        have key:∀ k,U4 cfg t h (.ptr r p i j) k=Qs r p i j v k:=by
         intro k
         simp only [U4,h1,h2,h3,h4]
         split
         ·rename_i fs hf;exact absurd ⟨fs,hf⟩ hs
         ·rfl
        rcases Xfn r p i j v with h5 | ⟨a,h5⟩
        ·exact .inl fun k=>by rw [key];exact h5 k
        ·exact .inr ⟨a,fun k=>by rw [key];exact h5 k⟩
theorem Xqg (cfg:Cfg) (t:TypeId):(∀ k,U6 cfg t k=none)∨∃ n,∀ k,U6 cfg t k=k n:=by
 rcases Qm cfg.ty t with h | ⟨x,h⟩
 ·exact .inl fun k=>by simp only [U6,h]
 ·cases hs:x.shape with
  | slice e =>
    rcases Qm cfg.ty e with h2 | ⟨y,h2⟩
    ·exact .inl fun k=>by simp only [U6,h,hs,h2]
    ·exact .inr ⟨y.size,fun k=>by simp only [U6,h,hs,h2]⟩
  | _=>exact .inr ⟨0,fun k=>by simp only [U6,h,hs]⟩
theorem Xr2 (cfg:Cfg) (t:TypeId):(∀ k,Xe1 cfg t k=none)∨∃ n,∀ k,Xe1 cfg t k=k n:=by
 rcases Qm cfg.ty t with h | ⟨x,h⟩
 ·exact .inl fun k=>by simp only [Xe1,h]
 ·cases hs:x.shape with
  | slice e =>
    rcases Qm cfg.ty e with h2 | ⟨y,h2⟩
    ·exact .inl fun k=>by simp only [Xe1,h,hs,h2]
    ·exact .inr ⟨y.size,fun k=>by simp only [Xe1,h,hs,h2]⟩
  | _=>exact .inl fun k=>by simp only [Xe1,h,hs]
theorem Xqh (h:Heap) (v:AV):(∀ k,Xbe h v k=none)∨∃ a b c d e f,∀ k,Xbe h v k=k a b c d e f:=by
 cases v <;> first
  | exact .inl fun _=>rfl
  | skip
 case ref r p =>
  rcases Uz h r p with h1 | ⟨x,sz,rows,h1⟩
  ·exact .inl fun k=>by simp only [Xbe,h1]
  ·exact .inr ⟨r,p,0,rows.length,sz,rows,fun k=>by simp only [Xbe,h1]⟩
 case sub r p off len =>
  rcases Uz h r p with h1 | ⟨x,sz,rows,h1⟩
  ·exact .inl fun k=>by simp only [Xbe,h1]
  ·exact .inr ⟨r,p,off,len,sz,rows,fun k=>by simp only [Xbe,h1]⟩
theorem Xr3 (h:Heap) (v:AV):(∀ k,Xe2 h v k=none)∨∃ a,∀ k,Xe2 h v k=k a:=by
 cases v <;> first
  | exact .inl fun _=>rfl
  | exact .inr ⟨_,fun _=>rfl⟩
  | skip
 rename_i r p
 rcases Uz h r p with h1 | ⟨x,sz,rows,h1⟩
 ·exact .inl fun k=>by simp only [Xe2,h1]
 ·exact .inr ⟨rows.length,fun k=>by simp only [Xe2,h1]⟩
def Lin (X:(AV→R)→R):Prop:=(∀ k,X k=none)∨∃ V:AV→Prop,(∃ v,V v)∧∀ k res,X k=some res↔∀ v,V v→k v=some res
theorem Lin.none':Lin fun _=>none:=.inl fun _=>rfl
theorem Lin.one (v:AV):Lin fun k=>k v:=.inr ⟨(·=v),⟨v,rfl⟩,fun k res=>⟨fun h u hu=>by cases hu;exact h,fun h=>h v rfl⟩⟩
theorem Lin.congr {X Y:(AV→R)→R} (h:Lin X) (e:∀ k,Y k=X k):Lin Y:=by
 have:Y=X:=funext e
 rw [this];exact h
theorem Lin.br {b:Bool} {X Y:(AV→R)→R} (hx:Lin X) (hy:Lin Y):Lin fun k=>br b (X k) (Y k):=by
 cases b with
 | true=>exact hx.congr fun k=>Vn _ _
 | false=>exact hy.congr fun k=>Wk _ _
theorem Xmn {x y:R} {res:Res}:both x y=some res↔x=some res∧y=some res:=by
 unfold both
 split
 ·rename_i h;subst h;simp
 ·rename_i h
  simp only [reduceCtorEq,false_iff,not_and]
  intro h1 h2
  exact h (h1.trans h2.symm)
theorem Lin.both {X Y:(AV→R)→R} (hx:Lin X) (hy:Lin Y):Lin fun k=>both (X k) (Y k):=by
 rcases hx with hx | ⟨V,⟨v,hv⟩,hV⟩
 ·refine .inl fun k=>?_
  cases h:Abs.both (X k) (Y k) with
  | none=>exact h
  | some r=>have:=(Xmn.1 h).1;rw [hx] at this;cases this
 ·rcases hy with hy | ⟨W,_,hW⟩
  ·refine .inl fun k=>?_
   cases h:Abs.both (X k) (Y k) with
   | none=>exact h
   | some r=>have:=(Xmn.1 h).2;rw [hy] at this;cases this
  ·exact .inr ⟨fun u=>V u∨W u,⟨v,.inl hv⟩,fun k res=>by
    rw [Xmn,hV,hW]
    exact ⟨fun h u hu=>hu.elim (h.1 u) (h.2 u),fun h=>⟨fun u hu=>h u (.inl hu),fun u hu=>h u (.inr hu)⟩⟩⟩
theorem Xgw:∀ (x y:List AV),(∀ k,Uc x y k=none)∨∃ b,∀ k,Uc x y k=k b
 | [],[]=>.inr ⟨true,fun _=>rfl⟩
 | [],_::_=>.inl fun _=>rfl
 | _::_,[]=>.inl fun _=>rfl
 | a::x,b::y=>by
   have ih:=Xgw x y
   cases a <;> cases b <;> first
    | exact .inl fun _=>rfl
    | skip
   all_goals
    first
     | (rename_i c m d n
        by_cases hcd:c=d
        ·rcases ih with h | ⟨t,h⟩
         ·exact .inl fun k=>by simp only [Uc,hcd,decide_true,h]
         ·exact .inr ⟨m==n&&t,fun k=>by simp only [Uc,hcd,decide_true,h]⟩
        ·exact .inl fun k=>by simp only [Uc,hcd,decide_false])
     | (rename_i m n
        rcases ih with h | ⟨t,h⟩
        ·exact .inl fun k=>by simp only [Uc,h]
        ·exact .inr ⟨m==n&&t,fun k=>by simp only [Uc,h]⟩)
theorem Xtw (l:List (TypeId×Nat)) (t:TypeId):(∀ k,memT l t k=none)∨∃ c,∀ k,memT l t k=k c:=by
 induction l with
 | nil=>exact .inl fun _=>rfl
 | cons a l ih =>
   obtain ⟨a,c⟩:=a
   by_cases h:a=t
   ·exact .inr ⟨c,fun k=>by simp only [memT,if_pos h]⟩
   ·rcases ih with h2 | ⟨c,h2⟩
    ·exact .inl fun k=>by simp only [memT,if_neg h,h2]
    ·exact .inr ⟨c,fun k=>by simp only [memT,if_neg h,h2]⟩
theorem Lin.of {X:(AV→R)→R} (h:(∀ k,X k=none)∨∃ a,∀ k,X k=k a):Lin X:=by
 rcases h with h | ⟨a,h⟩
 ·exact .inl h
 ·exact (Lin.one a).congr h
end Go.Abs
