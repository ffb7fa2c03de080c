/- What the program's functions answer (Lib3): no condition. -/
import Derived.Orders
import Derived.Deep.Slices
import Derived.Carry
import Derived.Below
import Derived.ChangeOld
import Derived.SizedLaws
import Derived.RowKit
import Derived.Laws.BitsLemmas
import Derived.Test.YtbploohjimpcaaaGreatLib2
set_option linter.unusedVariables false
set_option linter.unusedSimpArgs false
namespace Go.Abs
theorem Xow {e:List AV} {x:Operand} {k k':AV→R} {res:Res} (h:opnd e x k=some res) (hk:∀ v,k v=some res→k' v=some res):opnd e x k'=some res:=by
 rcases Xhc e x with h0 | ⟨a,h0⟩
 ·rw [h0] at h;cases h
 ·rw [h0] at h ⊢;exact hk a h
theorem Xtx {e:List AV} {x:List Operand} {k k':List AV→R} {res:Res} (h:Xbo e x k=some res) (hk:∀ v,k v=some res→k' v=some res):Xbo e x k'=some res:=by
 rcases Xfl e x with h0 | ⟨a,h0⟩
 ·rw [h0] at h;cases h
 ·rw [h0] at h ⊢;exact hk a h
theorem Lin.opnd {e:List AV} {x:Operand} {X:AV→(AV→R)→R} (h:∀ v,Lin (X v)):Lin fun k=>opnd e x fun v=>X v k:=by
 rcases Xhc e x with h0 | ⟨a,h0⟩
 ·exact .inl fun k=>h0 _
 ·exact (h a).congr fun k=>h0 _
theorem Lin.tyK {l:List (TypeId×TInfo)} {t:TypeId} {X:TInfo→(AV→R)→R} (h:∀ v,Lin (X v)):Lin fun k=>tyK l t fun v=>X v k:=by
 rcases Qm l t with h0 | ⟨a,h0⟩
 ·exact .inl fun k=>h0 _
 ·exact (h a).congr fun k=>h0 _
theorem Xjt (h:Heap) (esz:Nat) (v:AV):(∀ k,cl0 h esz v k=none)∨∃ a,∀ k,cl0 h esz v k=k a:=by
 cases v with
 | ref r p =>
   rcases Uz h r p with h1 | ⟨x,sz,rows,h1⟩
   ·exact .inl fun k=>by simp only [cl0,h1]
   ·by_cases hb:x.box=true∧p=[]
    ·obtain ⟨hb,rfl⟩:=hb
     exact .inl fun k=>by simp only [cl0,h1,hb]
    ·refine .inr ⟨.lst sz rows,fun k=>?_⟩
     simp only [cl0,h1]
     split
     ·rename_i e1;exact absurd ⟨e1,rfl⟩ hb
     ·rfl
 | sub r p off len =>
   rcases Uz h r p with h1 | ⟨x,sz,rows,h1⟩
   ·exact .inl fun k=>by simp only [cl0,h1]
   ·by_cases hb:x.box=true∧p=[]
    ·obtain ⟨hb,rfl⟩:=hb
     exact .inl fun k=>by simp only [cl0,h1,hb]
    ·refine .inr ⟨.lst sz ((rows.drop off).take len),fun k=>?_⟩
     simp only [cl0,h1]
     split
     ·rename_i e1;exact absurd ⟨e1,rfl⟩ hb
     ·rfl
 | _=>first
   | exact .inl fun _=>rfl
   | exact .inr ⟨_,fun _=>rfl⟩
theorem Xhe (h:Heap) (esz:Nat):∀ (l:List AV),(∀ k,clL0 h esz l k=none)∨∃ a,∀ k,clL0 h esz l k=k a
 | []=>.inr ⟨[],fun _=>rfl⟩
 | v::l=>by
   rcases Xjt h esz v with h1 | ⟨a,h1⟩
   ·exact .inl fun k=>by simp only [clL0,h1]
   ·rcases Xhe h esz l with h2 | ⟨b,h2⟩
    ·exact .inl fun k=>by simp only [clL0,h1,h2]
    ·exact .inr ⟨a::b,fun k=>by simp only [clL0,h1,h2]⟩
theorem Xox (h:Heap) (n:Nat) (v:AV):(∀ k,clP h n v k=none)∨∃ a,∀ k,clP h n v k=k a:=by
 cases v with
 | ptr r p i j =>
   cases n with
   | zero=>exact .inl fun _=>rfl
   | succ n =>
     rcases Uz h r p with h1 | ⟨x,sz,rows,h1⟩
     ·exact .inl fun k=>by simp only [clP,h1]
     ·rcases Xei rows i with h2 | ⟨row,h2⟩
      ·exact .inl fun k=>by simp only [clP,h1,h2]
      ·rcases Xfm j row with h3 | ⟨row',h3⟩
       ·exact .inl fun k=>by simp only [clP,h1,h2,h3]
       ·rcases Xov (n+1) row' with h4 | ⟨x,y,h4⟩
        ·exact .inl fun k=>by simp only [clP,h1,h2,h3,h4]
        ·rcases Xhe h 0 x with h5 | ⟨z,h5⟩
         ·exact .inl fun k=>by simp only [clP,h1,h2,h3,h4,h5]
         ·exact .inr ⟨.pv z,fun k=>by simp only [clP,h1,h2,h3,h4,h5]⟩
 | nilp=>exact .inr ⟨.nilp,fun _=>rfl⟩
 | _=>exact .inl fun _=>rfl
theorem Xoy (h:Heap):∀ (l:List AV),(∀ k,clC h l k=none)∨∃ a,∀ k,clC h l k=k a
 | []=>.inr ⟨[],fun _=>rfl⟩
 | v::l=>by
   have one:∀ X:(AV→R)→R,((∀ k,X k=none)∨∃ a,∀ k,X k=k a)→(∀ k,clC h (v::l) k=X fun v=>clC h l fun l=>k (v::l))→(∀ k,clC h (v::l) k=none)∨∃ a,∀ k,clC h (v::l) k=k a:=by
    intro X hX e
    rcases hX with h1 | ⟨a,h1⟩
    ·exact .inl fun k=>by rw [e,h1]
    ·rcases Xoy h l with h2 | ⟨b,h2⟩
     ·exact .inl fun k=>by rw [e,h1,h2]
     ·exact .inr ⟨a::b,fun k=>by rw [e,h1,h2]⟩
   have plain:(∀ k,clC h (v::l) k=cl0 h 0 v fun v=>clC h l fun l=>k (v::l))→(∀ k,clC h (v::l) k=none)∨∃ a,∀ k,clC h (v::l) k=k a:=fun e=>one _ (Xjt h 0 v) e
   cases v with
   | ptr r p i j =>
     cases p with
     | cons q p=>exact .inl fun _=>rfl
     | nil=>cases i with
       | succ i=>exact .inl fun _=>rfl
       | zero=>cases j with
         | succ j=>exact .inl fun _=>rfl
         | zero =>
           rcases Uz h r [] with h1 | ⟨x,n,rows,h1⟩
           ·exact .inl fun k=>by simp only [clC,h1]
           ·exact one _ (Xox h n (.ptr r [] 0 0)) fun k=>by simp only [clC,h1]
   | _=>exact plain fun k=>rfl
theorem Xw7 (cfg:Cfg) (h:Heap) (t:TypeId) (v:AV):(∀ k,cl1 cfg h t v k=none)∨∃ a,∀ k,cl1 cfg h t v k=k a:=by
 have plain:(∀ k,cl1 cfg h t v k=U6 cfg t fun esz=>cl0 h esz v k)→(∀ k,cl1 cfg h t v k=none)∨∃ a,∀ k,cl1 cfg h t v k=k a:=by
  intro e
  rcases Xqg cfg t with h1 | ⟨n,h1⟩
  ·exact .inl fun k=>by rw [e,h1]
  ·rcases Xjt h n v with h2 | ⟨a,h2⟩
   ·exact .inl fun k=>by rw [e,h1,h2]
   ·exact .inr ⟨a,fun k=>by rw [e,h1,h2]⟩
 cases v with
 | agg cs =>
   rcases Xhe h 0 cs with h1 | ⟨a,h1⟩
   ·exact .inl fun k=>by simp only [cl1,h1]
   ·exact .inr ⟨.agg a,fun k=>by simp only [cl1,h1]⟩
 | fn f cs =>
   rcases Xoy h cs with h1 | ⟨a,h1⟩
   ·exact .inl fun k=>by simp only [cl1,h1]
   ·exact .inr ⟨.fn f a,fun k=>by simp only [cl1,h1]⟩
 | ptr r p i j =>
   rcases Qm cfg.ty t with h1 | ⟨x,h1⟩
   ·exact .inl fun k=>by simp only [cl1,h1]
   ·cases hs:x.shape with
    | ptr e =>
      rcases Qm cfg.ty e with h2 | ⟨y,h2⟩
      ·exact .inl fun k=>by simp only [cl1,h1,hs,h2]
      ·rcases Xox h y.size (.ptr r p i j) with h3 | ⟨a,h3⟩
       ·exact .inl fun k=>by simp only [cl1,h1,hs,h2,h3]
       ·exact .inr ⟨a,fun k=>by simp only [cl1,h1,hs,h2,h3]⟩
    | _=>exact .inl fun k=>by simp only [cl1,h1,hs]
 | _=>exact plain fun k=>rfl
theorem Xej (cfg:Cfg) (h:Heap):∀ (ts:List TypeId) (l:List AV),(∀ k,Qu cfg h ts l k=none)∨∃ a,∀ k,Qu cfg h ts l k=k a
 | [],[]=>.inr ⟨[],fun _=>rfl⟩
 | [],_::_=>.inl fun _=>rfl
 | _::_,[]=>.inl fun _=>rfl
 | t::ts,v::l=>by
   rcases Xw7 cfg h t v with h1 | ⟨a,h1⟩
   ·exact .inl fun k=>by simp only [Qu,h1]
   ·rcases Xej cfg h ts l with h2 | ⟨b,h2⟩
    ·exact .inl fun k=>by simp only [Qu,h1,h2]
    ·exact .inr ⟨a::b,fun k=>by simp only [Qu,h1,h2]⟩
theorem Xoz (x:R):(∀ k,bnd x k=none)∨∃ a,x=some a∧∀ k,bnd x k=k a:=by
 cases x with
 | none=>exact .inl fun k=>Xq4 k
 | some a=>exact .inr ⟨a,rfl,fun k=>Xez _ _⟩
section
variable {P:Program} {cfg:Cfg} {lv:Lev} {o:Oper} {slot:Nat} {st:St} {c:St→R} {res:Res}
theorem X1f (h:valD cfg lv o st.env st.heap (fun v=>putD st o.dst v c)=some res):evOp cfg lv slot o st c=some res:=by
 unfold valD at h
 unfold evOp
 split at h
 ·rename_i x ho
  simp only [ho]
  exact Xow h fun v hv=>by
   cases v <;> first | exact hv | (cases hv;done)
 ·rename_i x ho
  simp only [ho]
  exact Xow h fun v hv=>by
   cases v <;> first | exact hv | (cases hv;done)
 ·rename_i ho;simp only [ho];exact h
 ·rename_i ho;simp only [ho];exact h
 ·rename_i ho;simp only [ho];exact h
 ·rename_i ho;simp only [ho];exact h
 ·rename_i ho;simp only [ho];exact h
 ·rename_i ho;simp only [ho];exact h
 ·rename_i ho;simp only [ho];exact h
 ·rename_i ho;simp only [ho];exact h
 ·rename_i ho;simp only [ho];exact h
 ·rename_i ho;simp only [ho];exact h
 ·rename_i cl ho
  simp only [ho]
  refine Xtx h fun vs hv=>?_
  split at hv
  ·rename_i b hb
   (try simp only [hb])
   split at hv
   ·split at hv
    ·rename_i t v ht
     simp only [Wn,ht]
     exact hv
    ·cases hv
   ·cases hv
  ·rename_i fo hb
   (try simp only [hb])
   split at hv
   ·rename_i f
    split at hv
    ·rename_i hm
     simp only [opnd,Xu2,Xu1,hm]
     rcases Xej cfg st.heap cl.argTypes.toList vs with h1 | ⟨vs',h1⟩
     ·rw [h1] at hv;cases hv
     ·rw [h1] at hv ⊢
      rcases Xoz (lv.pure f vs') with h2 | ⟨r,_,h2⟩
      ·rw [h2] at hv;cases hv
      ·rw [h2] at hv ⊢
       obtain ⟨v,out⟩:=r
       cases v <;> first | exact hv | (cases hv;done)
    ·cases hv
   ·cases hv
  ·cases hv
 ·cases h
theorem Xw8 (op:BinOp) (kd:IntKind) (a b:Int):Lin (Xux op kd a b):=by
 cases op <;> first
  | exact Lin.one _
  | exact Lin.none'
  | exact Lin.br Lin.none' (Lin.one _)
theorem Xr4 (op:BinOp) (kd:IntKind) (a b:Int):Lin (shOp op kd a b):=by
 cases op <;> first
  | exact Lin.none'
  | exact Lin.br Lin.none' (Lin.one _)
theorem Xw9 (op:BinOp) (a b:ByteArray):Lin (Xuy op a b):=by
 cases op <;> first
  | exact Lin.one _
  | exact Lin.none'
  | exact Lin.br (Lin.one _) Lin.none'
theorem Xr5 (cfg:Cfg) (t:TypeId) (h:Heap) (a b:AV) (m:Bool→AV):Lin fun k=>eqOp cfg t h a b fun v=>k (m v):=by
 unfold eqOp
 refine Lin.tyK fun x=>?_
 have nilEq:∀ c:Bool,Lin fun k=>br c (both (k (m true)) (k (m false))) (k (m false)):=fun c=>Lin.br (Lin.both (Lin.one _) (Lin.one _)) (Lin.one _)
 split
 ·exact Lin.one _
 ·rename_i ms ns _
  rcases Xtw cfg.eqs t with h1 | ⟨c,h1⟩
  ·exact .inl fun k=>h1 _
  ·cases hi:Xls c ms with
   | false=>exact .inl fun k=>(h1 _).trans (by simp only [hi])
   | true =>
     rcases Xgw ms ns with h2 | ⟨b,h2⟩
     ·exact .inl fun k=>(h1 _).trans (by simp only [hi];exact h2 _)
     ·exact (Lin.one (m b)).congr fun k=>(h1 _).trans (by simp only [hi];exact h2 _)
 ·exact Lin.one _
 ·rename_i r p _
  rcases Uz h r p with h1 | ⟨x,sz,rows,h1⟩
  ·exact .inl fun k=>h1 _
  ·exact (nilEq (decide (rows.length=0))).congr fun k=>h1 _
 ·exact nilEq _
 ·split
  ·exact Lin.both (Lin.one _) (Lin.one _)
  ·exact Lin.none'
 ·exact Lin.one _
 ·exact Lin.one _
 ·exact Lin.one _
 ·exact Lin.one _
 ·exact Lin.none'
theorem Xxa (cfg:Cfg) (op:BinOp) (t:TypeId) (h:Heap) (a b:AV):Lin (binOp cfg op t h a b):=by
 have e:∀ X:(AV→R)→R,Lin X→(∀ k,binOp cfg op t h a b k=X k)→Lin (binOp cfg op t h a b):=fun X hX he=>hX.congr he
 unfold binOp
 split
 ·split
  ·exact Xr4 _ _ _ _
  ·exact Xr4 _ _ _ _
  ·split
   ·exact Xw8 _ _ _ _
   ·exact Lin.none'
 ·exact Xw9 _ _ _
 ·split
  ·exact Xr5 cfg t h _ _ fun b=>.bool b
  ·exact Xr5 cfg t h _ _ fun b=>.bool !b
  ·exact Lin.none'
theorem Xze (op:UnOp) (a:AV):Lin (unOp op a):=by
 unfold unOp
 split
 ·exact Lin.one _
 ·exact Lin.one _
 ·exact Lin.none'
theorem Xvq (l:List AV) (n:Nat):Lin (nth l n):=Lin.of (Xhd l n)
theorem Xzf (cfg:Cfg) (h:Heap) (t:TypeId) (v:AV) (i:Int):Lin fun k=>Xe1 cfg t fun esz=>Xbe h v fun r p off len sz _=>match decide (sz=esz) with
 | true=>br (decide (0≤i)) (br (decide (i<(len:Int))) (match off with
   | 0=>k (.ptr r p i.toNat 0)
   | off=>k (.ptr r p (off+i.toNat) 0)) none) none
 | false=>none:=by
 rcases Xr2 cfg t with h1 | ⟨esz,h1⟩
 ·exact .inl fun k=>h1 _
 ·rcases Xqh h v with h2 | ⟨r,p,off,len,sz,rows,h2⟩
  ·exact .inl fun k=>(h1 _).trans (h2 _)
  ·refine Lin.congr ?_ (fun k=>(h1 _).trans (h2 _))
   split
   ·refine Lin.br (Lin.br ?_ Lin.none') Lin.none'
    split <;> exact Lin.one _
   ·exact Lin.none'
theorem Xzg (h:Heap) (v:AV):Lin fun k=>match v with
 | .str _=>none
 | v=>Xe2 h v fun n=>k (.int .i64 n):=by
 have main:Lin fun k=>Xe2 h v fun n=>k (.int .i64 n):=by
  rcases Xr3 h v with h1 | ⟨n,h1⟩
  ·exact .inl fun k=>h1 _
  ·exact (Lin.one (.int .i64 n)).congr fun k=>h1 _
 cases v <;> first | exact Lin.none' | exact main
theorem Xxb (cfg:Cfg) (lv:Lev) (h:Heap) (ts:List TypeId) (vs:List AV) (f:FuncId):Lin fun k=>Qu cfg h ts vs fun vs'=>bnd (lv.pure f vs') fun res=>match res.val with
 | .bool b=>k (.bool b)
 | .int kd n=>k (.int kd n)
 | .str s=>k (.str s)
 | _=>none:=by
 rcases Xej cfg h ts vs with h1 | ⟨vs',h1⟩
 ·exact .inl fun k=>h1 _
 ·rcases Xoz (lv.pure f vs') with h2 | ⟨r,_,h2⟩
  ·exact .inl fun k=>(h1 _).trans (h2 _)
  ·obtain ⟨v,out⟩:=r
   cases v <;> first
    | exact (Lin.one _).congr fun k=>(h1 _).trans (h2 _)
    | exact .inl fun k=>(h1 _).trans (h2 _)
theorem Xzh (e:List AV) (h:Heap):Lin (valD cfg lv o e h):=by
 unfold valD
 split
 ·exact Lin.opnd fun v=>by split <;> first | exact Lin.none' | exact Lin.one _
 ·exact Lin.opnd fun v=>by split <;> first | exact Lin.none' | exact Lin.one _
 ·exact Lin.opnd fun v=>by
   split
   ·exact Lin.br (Lin.opnd fun v=>Lin.one v) (Lin.opnd fun v=>Lin.one v)
   ·exact Lin.none'
 ·exact Lin.opnd fun v=>Lin.of (Xr1 cfg _ h v)
 ·exact Lin.opnd fun v=>by split <;> first | exact Lin.none' | exact Lin.one _
 ·exact Lin.opnd fun a=>Lin.opnd fun b=>Xxa _ _ _ _ _ _
 ·exact Lin.opnd fun a=>Xze _ _
 ·exact Lin.opnd fun v=>Lin.tyK fun t=>by
   split
   ·split
    ·exact Lin.tyK fun y=>by split <;> first | exact Lin.none' | exact Lin.one _
    ·exact Lin.none'
   ·exact Lin.none'
 ·exact Lin.opnd fun v=>Lin.tyK fun t=>by
   split
   ·rename_i fs cs _
    split
    ·rename_i off ft _
     rcases Xfm off cs with h1 | ⟨cs',h1⟩
     ·exact .inl fun k=>h1 _
     ·refine Lin.congr (X:=fun k=>Abs.tyK cfg.ty ft fun y=>match y.shape with | .struct _=>cut y.size cs' fun cs _=>k (.agg cs) | _=>nth cs' 0 k) (Lin.tyK fun y=>?_) (fun k=>h1 _)
      split
      ·rcases Xov y.size cs' with h2 | ⟨a,b,h2⟩
       ·exact .inl fun k=>h2 _
       ·exact (Lin.one (.agg a)).congr fun k=>h2 _
      ·exact Xvq _ _
    ·exact Lin.none'
   ·exact Lin.none'
 ·exact Lin.opnd fun v=>Lin.opnd fun u=>by
   split
   ·exact Xzf _ _ _ _ _
   ·exact Lin.none'
 ·exact Lin.tyK fun ti=>by
   split
   ·exact Lin.opnd fun v=>Lin.opnd fun u=>by
     split
     ·exact Lin.br (Lin.br (Lin.one _) Lin.none') Lin.none'
     ·exact Lin.none'
   ·exact Lin.none'
 ·exact Lin.opnd fun v=>by
   split
   ·exact Xvq _ _
   ·exact Lin.none'
 ·rename_i cl _
  rcases Xfl e cl.args.toList with h0 | ⟨vs,h0⟩
  ·exact .inl fun k=>h0 _
  ·refine Lin.congr ?_ (fun k=>h0 _)
   split
   ·split
    ·split
     ·exact Lin.tyK fun x=>by
       split
       ·split
        ·exact Lin.one _
        ·exact Lin.none'
       ·exact Xzg _ _
       ·exact Lin.none'
     ·exact Lin.none'
    ·exact Lin.none'
   ·split
    ·split
     ·exact Xxb _ _ _ _ _ _
     ·exact Lin.none'
    ·exact Lin.none'
   ·exact Lin.none'
 ·exact Lin.none'
theorem Xr6 {e:List AV} {d t:Nat} {v:AV} (h:t≠d) (k:AV→R):getE (e.set d v) t k=getE e t k:=by
 induction e generalizing d t with
 | nil=>rfl
 | cons a e ih =>
   cases d with
   | zero=>cases t with
     | zero=>exact absurd rfl h
     | succ t=>rfl
   | succ d=>cases t with
     | zero=>rfl
     | succ t=>exact ih (by omega)
theorem Xci {e:List AV} {d:Nat} {v:AV} {x:Operand} (h:x≠.tmp d) (k:AV→R):opnd (e.set d v) x k=opnd e x k:=by
 cases x with
 | tmp t=>exact Xr6 (fun e=>h (by rw [e])) k
 | const c=>rfl
 | func f=>rfl
 | global g=>rfl
theorem Xo0 {e:List AV} {d:Nat} {v:AV}:∀ {l:List Operand} (_:∀ x∈l,x≠.tmp d) (k:List AV→R),Xbo (e.set d v) l k=Xbo e l k
 | [],_,k=>rfl
 | x::l,h,k=>by
   have ih:=fun k=>Xo0 (e:=e) (d:=d) (v:=v) (l:=l) (fun y hy=>h y (by simp [hy])) k
   simp only [Xbo,Xci (h x (by simp)),ih]
theorem Xzi {e:List AV} {h:Heap} {d:Nat} {v:AV} (hd:∀ x∈o.op.operands.toList,x≠.tmp d) (k:AV→R):valD cfg lv o (e.set d v) h k=valD cfg lv o e h k:=by
 unfold valD
 split <;> rename_i ho <;> simp only [ho,Op.operands,List.mem_cons,List.not_mem_nil,or_false,forall_eq_or_imp,forall_eq] at hd
 all_goals first
  | rfl
  | (simp only [Xci hd.1,Xci hd.2.1,Xci hd.2.2];done)
  | (simp only [Xci hd.1,Xci hd.2];done)
  | (simp only [Xci hd];done)
  | skip
 rename_i cl
 have:∀ x∈cl.args.toList,x≠.tmp d:=fun x hx=>hd x (by simp only [Call.operands,Array.toList_append,List.mem_append];exact .inr hx)
 rw [Xo0 this]
end
end Go.Abs
namespace Go.Abs
noncomputable section
variable {P:Program} {E:Env} {cfg:Cfg} {lv:Lev} {C:Ctx} {ts:List (List Value)} {w:World} {a:Act} {st:St} {wr:Wrs} {g:Gh} {c:St→R} {res:Res}
def Xcj (st:St) (d:Option Tmp) (v:AV):St:=match d with | some t=>⟨st.env.set t v,st.stk,st.heap⟩ | none=>st
theorem Xh9 {d:Option Tmp} {v:AV} {k:St→R} (h:putD st d v k=some res):(∀ t,d=some t→t<st.env.length)∧k (Xcj st d v)=some res:=by
 cases d with
 | none=>exact ⟨fun t h=>(by cases h),h⟩
 | some t =>
   obtain ⟨e,s,hp⟩:=st
   obtain ⟨h1,h2⟩:=Xhu h
   exact ⟨fun t' h=>by cases h;exact h1,h2⟩
theorem Xqi {d:Option Tmp} {v:AV} {k:St→R} (h:∀ t,d=some t→t<st.env.length):putD st d v k=k (Xcj st d v):=by
 cases d with
 | none=>rfl
 | some t =>
   obtain ⟨e,s,hp⟩:=st
   exact Xvh (h t rfl)
theorem Xo1 (d:Option Tmp) (v:AV):(Xcj st d v).env.length=st.env.length:=by
 cases d <;> simp [Xcj]
def stepV (cfg:Cfg) (lv:Lev) (all:List Oper) (o:Oper) (st:St) (k:AV→R):R:=Xbf all o.guard st (valD cfg lv o st.env st.heap k) (k (.tup []))
theorem Xty {all:List Oper} {gd:Option (Nat×Bool)} {X Y:(AV→R)→R} (hx:Lin X) (hy:Lin Y):Lin fun k=>Xbf all gd st (X k) (Y k):=by
 unfold Xbf
 split
 ·exact hx
 ·split
  ·split
   ·rename_i d _
    rcases Xhd st.env d with h | ⟨v,h⟩
    ·exact .inl fun k=>h _
    ·refine Lin.congr ?_ (fun k=>h _)
     split
     ·split
      ·exact Lin.br hx hy
      ·exact Lin.br hy hx
     ·exact hy
     ·exact Lin.none'
   ·exact Lin.none'
  ·exact Lin.none'
theorem Xju (all:List Oper) (o:Oper):Lin (stepV cfg lv all o st):=Xty (Xzh _ _) (Lin.one _)
theorem Xck {all:List Oper} {o:Oper} (hs:Xd9 cfg o=true):Xbp cfg lv all o st c=stepV cfg lv all o st fun v=>putD st o.dst v c:=by
 unfold Xbp stepV
 simp only [hs]
theorem Xr7 {all:List Oper} {o:Oper} {d:Nat} (h:Xcz all o d=false):(∀ x∈o.op.operands.toList,x≠.tmp d)∧(∀ gj wt p,o.guard=some (gj,wt)→all[gj]?=some p→p.dst≠some d):=by
 unfold Xcz at h
 rw [Bool.or_eq_false_iff] at h
 refine ⟨fun x hx e=>?_,fun gj wt p hg hp e=>?_⟩
 ·subst e
  have:=List.any_eq_false.1 h.1 _ hx
  simp at this
 ·have:=h.2
  rw [hg] at this
  simp only [hp,e] at this
  simp at this
theorem Xo2 {all:List Oper} {o:Oper} {d:Option Tmp} {v:AV} (h:∀ t,d=some t→Xcz all o t=false) (k:AV→R):stepV cfg lv all o (Xcj st d v) k=stepV cfg lv all o st k:=by
 cases d with
 | none=>rfl
 | some t =>
   obtain ⟨h1,h2⟩:=Xr7 (h t rfl)
   unfold stepV
   have e1:valD cfg lv o (Xcj st (some t) v).env (Xcj st (some t) v).heap k=valD cfg lv o st.env st.heap k:=Xzi h1 k
   rw [e1]
   unfold Xbf
   split
   ·rfl
   ·rename_i gj wt hg
    split
    ·rename_i p hp
     split
     ·rename_i d' hd'
      have hne:d'≠t:=fun e=>h2 gj wt p hg hp (by rw [hd',e])
      exact Xr6 hne _
     ·rfl
    ·rfl
theorem Xtz {all:List Oper} {x y:Oper} (h:apart all x y=true):(∀ t,x.dst=some t→Xcz all y t=false∧y.dst≠some t)∧(∀ t,y.dst=some t→Xcz all x t=false):=by
 unfold apart at h
 rw [Bool.and_eq_true] at h
 refine ⟨fun t ht=>?_,fun t ht=>?_⟩
 ·have:=h.1
  rw [ht] at this
  simpa using this
 ·have:=h.2
  rw [ht] at this
  simpa using this
theorem Xt0 {all:List Oper} {x y:Oper} (hx:Xd9 cfg x=true) (hy:Xd9 cfg y=true) (ha:apart all x y=true) (h:Xbp cfg lv all x st (fun st=>Xbp cfg lv all y st c)=some res) :
 Xbp cfg lv all y st (fun st=>Xbp cfg lv all x st c)=some res:=by
 obtain ⟨a1,a2⟩:=Xtz ha
 rw [Xck hx] at h
 rw [Xck hy]
 rcases Xju (cfg:=cfg) (lv:=lv) (st:=st) all x with hX | ⟨V,⟨v0,hv0⟩,hV⟩
 ·rw [hX] at h;cases h
 ·rw [hV] at h
  have key:∀ v,V v→(∀ t,x.dst=some t→t<st.env.length)∧stepV cfg lv all y st (fun u=>putD (Xcj st x.dst v) y.dst u c)=some res:=by
   intro v hv
   have h1:=h v hv
   obtain ⟨b1,h1⟩:=Xh9 h1
   refine ⟨b1,?_⟩
   change Xbp cfg lv all y (Xcj st x.dst v) c=some res at h1
   rw [Xck hy,Xo2 (fun t ht=>(a1 t ht).1)] at h1
   exact h1
  rcases Xju (cfg:=cfg) (lv:=lv) (st:=st) all y with hY | ⟨U,⟨u0,hu0⟩,hU⟩
  ·have:=(key v0 hv0).2;rw [hY] at this;cases this
  ·rw [hU]
   intro u hu
   have by_:∀ t,y.dst=some t→t<st.env.length:=by
    have:=(hU _ _).1 (key v0 hv0).2 u hu
    obtain ⟨b2,_⟩:=Xh9 this
    rw [Xo1] at b2
    exact b2
   rw [Xqi by_]
   change Xbp cfg lv all x (Xcj st y.dst u) c=some res
   rw [Xck hx,Xo2 (fun t ht=>a2 t ht),hV]
   intro v hv
   obtain ⟨b1,h1⟩:=key v hv
   have h2:=(hU _ _).1 h1 u hu
   obtain ⟨_,h2⟩:=Xh9 h2
   rw [Xqi (by rw [Xo1];exact b1)]
   have e:Xcj (Xcj st y.dst u) x.dst v=Xcj (Xcj st x.dst v) y.dst u:=by
    cases hxd:x.dst with
    | none=>cases hyd:y.dst <;> rfl
    | some t =>
      cases hyd:y.dst with
      | none=>rfl
      | some t' =>
        have hne:t'≠t:=fun e=>(a1 t hxd).2 (by rw [hyd,e])
        simp only [Xcj]
        rw [List.set_comm _ _ hne]
   rw [e]
   exact h2
theorem Xr8 (hE:C.E=E) (hO:Xgv P E cfg lv) {ops:Array Oper} {i:Nat} {o:Oper} {Q:Exit→Act→World→Prop} (ho:ops[i]?=some o) (h:Xbp cfg lv ops.toList o st c=some res) (I:InvE C ts w a st):wpOp P ops Q i (Post C ts c res) a w:=by
 obtain ⟨wr,g,I⟩:=I
 have main:∀ run skip:R,Xbf ops.toList o.guard st run skip=some res→(run=some res→∃ slot,evOp cfg lv slot o st c=some res)→(skip=some res→putD st o.dst (.tup []) c=some res)→wpOp P ops Q i (Post C ts c res) a w:=by
  intro run skip hg hr hs
  unfold wpOp
  simp only [ho]
  rcases Xfe I hg with ⟨hw,h⟩ | ⟨hw,h⟩
  ·rw [if_pos hw]
   obtain ⟨slot,h⟩:=hr h
   exact .inl (hO C hE ts o slot st c res a w Q h ⟨wr,g,I⟩)
  ·rw [if_neg (by rw [hw];simp)]
   exact I.skip (hs h)
 unfold Xbp at h
 split at h
 ·exact main _ _ h (fun hr=>⟨0,X1f hr⟩) id
 ·exact main _ _ h (fun hr=>⟨_,Xhv hr⟩) id
def Xia (cfg:Cfg) (lv:Lev) (all:List Oper):List Nat→St→(St→R)→R
 | [],st,c=>c st
 | i::l,st,c=>match all[i]? with
   | some o=>Xbp cfg lv all o st fun st=>Xia cfg lv all l st c
   | none=>none
theorem Xmo {all:List Oper}:∀ (n k:Nat),k+n=all.length→∀ (st:St),Xg4 cfg lv all (all.drop k) st c=Xia cfg lv all ((List.range n).map (·+k)) st c
 | 0,k,hk,st=>by
   rw [List.drop_eq_nil_of_le (by omega),Vc]
   rfl
 | n+1,k,hk,st=>by
   have hlt:k<all.length:=by omega
   rw [List.drop_eq_getElem_cons hlt,List.range_succ_eq_map]
   simp only [Wl,List.map_cons,List.map_map,Xia,Nat.zero_add,List.getElem?_eq_getElem hlt]
   congr 1
   funext st
   rw [Xmo n (k+1) (by omega)]
   congr 1
   apply List.map_congr_left
   intro i _
   simp only [Function.comp_apply]
   omega
theorem Xr9 {all:List Oper} {o:Oper} {c c':St→R} (hc:∀ st,c st=some res→c' st=some res) (hs:Xd9 cfg o=true) (h:Xbp cfg lv all o st c=some res):Xbp cfg lv all o st c'=some res:=by
 rw [Xck hs] at h ⊢
 rcases Xju (cfg:=cfg) (lv:=lv) (st:=st) all o with hX | ⟨V,_,hV⟩
 ·rw [hX] at h;cases h
 ·rw [hV] at h ⊢
  intro v hv
  have:=h v hv
  obtain ⟨b,h1⟩:=Xh9 this
  rw [Xqi b]
  exact hc _ h1
theorem Xkr {all:List Oper} {i:Nat} {o:Oper} {B:List Nat} (ho:all[i]?=some o):∀ {A:List Nat} {st:St},(∀ j∈A,∀ p,all[j]?=some p→Xd9 cfg p=true∧Xd9 cfg o=true∧apart all p o=true) →
 Xia cfg lv all (A++i::B) st c=some res→Xbp cfg lv all o st (fun st=>Xia cfg lv all (A++B) st c)=some res
 | [],st,_,h=>by simpa [Xia,ho] using h
 | j::A,st,hA,h=>by
   simp only [List.cons_append,Xia] at h ⊢
   split at h
   ·rename_i p hp
    obtain ⟨s1,s2,s3⟩:=hA j (by simp) p hp
    have h1:=Xr9 (fun st hst=>Xkr ho (fun j' hj'=>hA j' (by simp [hj'])) hst) s1 h
    exact Xt0 s1 s2 s3 h1
   ·cases h
def left (n:Nat) (listed:Array Bool):List Nat:=(List.range n).filter fun i=>!listed.getD i true
theorem Xsa {n i:Nat} {listed:Array Bool} (hn:listed.size=n) (hi:i<n):left n (listed.setIfInBounds i true)=(left n listed).filter fun j=>decide (j≠i):=by
 unfold left
 rw [List.filter_filter]
 apply List.filter_congr
 intro j hj
 have hj:j<n:=List.mem_range.1 hj
 by_cases e:j=i
 ·subst e
  simp [Array.getD_eq_getD_getElem?,hn,hi]
 ·rw [Array.getD_eq_getD_getElem?,Array.getElem?_setIfInBounds_ne (Ne.symm e),←Array.getD_eq_getD_getElem?]
  simp [e]
theorem Xcl {n i:Nat} {listed:Array Bool}:i∈left n listed↔i<n∧listed.getD i true=false:=by
 simp [left]
theorem Xks (n:Nat) (listed:Array Bool):(left n listed).Pairwise (· < ·):=List.Pairwise.filter _ List.pairwise_lt_range
theorem Xgx {ops:Array Oper} {listed:Array Bool} (hcl:∀ i o,ops[i]?=some o→listed.getD i true=true→∀ e∈o.after.toList,Vh e=true→listed.getD e.on false=true) :
 ∀ (n i j:Nat),before ops.toList n i j=true→(∀ o,ops[i]?=some o→∀ e∈o.after.toList,Vh e=true→listed.getD e.on false=true)→listed.getD j false=true
 | 0,i,j,h,_=>by simp [before] at h
 | n+1,i,j,h,hi=>by
   simp only [before] at h
   split at h
   ·rename_i o ho
    rw [Array.getElem?_toList] at ho
    obtain ⟨e,he,hb⟩:=List.any_eq_true.1 h
    rw [Bool.and_eq_true,Bool.or_eq_true] at hb
    have hl:=hi o ho e he hb.1
    rcases hb.2 with h1 | h1
    ·have:e.on=j:=by simpa using h1
     rw [←this];exact hl
    ·refine Xgx hcl n e.on j h1 fun o' ho' e' he' hb'=>hcl e.on o' ho' ?_ e' he' hb'
     have hlt:e.on<listed.size:=by
      rcases Nat.lt_or_ge e.on listed.size with h | h
      ·exact h
      ·simp [Array.getD_eq_getD_getElem?,Array.getElem?_eq_none h] at hl
     simpa [Array.getD_eq_getD_getElem?,hlt] using hl
   ·cases h
theorem Xsb {listed:Array Bool} {i:Nat} (h:listed.getD i false=true):listed.getD i true=true:=by
 have hlt:i<listed.size:=by
  rcases Nat.lt_or_ge i listed.size with h' | h'
  ·exact h'
  ·simp [Array.getD_eq_getD_getElem?,Array.getElem?_eq_none h'] at h
 simpa [Array.getD_eq_getD_getElem?,hlt] using h
theorem Xsc (md:Region.Mode) {e:Edge} (h:Vh e=true):Region.binds md e=true:=by
 unfold Vh at h
 unfold Region.binds
 split <;> simp_all
theorem Xcm {md:Region.Mode} {ops:Array Oper} {listed:Array Bool} {i:Nat}:i∈Region.ready md ops listed↔i<ops.size∧listed.getD i true=false∧∃ o,ops[i]?=some o∧∀ e∈o.after.toList,Region.binds md e=true→listed.getD e.on false=true:=by
 unfold Region.ready
 simp only [List.mem_filter,List.mem_range,Bool.and_eq_true,Bool.not_eq_true']
 constructor
 ·rintro ⟨h1,h2,h3⟩
  refine ⟨h1,h2,ops[i],Array.getElem?_eq_getElem h1,fun e he hb=>?_⟩
  rw [Array.getElem?_eq_getElem h1] at h3
  simp only [Option.map_some,Option.getD_some] at h3
  have:=(Array.all_eq_true_iff_forall_mem.1 h3) e (Array.mem_toList_iff.1 he)
  simpa [hb] using this
 ·rintro ⟨h1,h2,o,ho,h3⟩
  refine ⟨h1,h2,?_⟩
  rw [ho]
  simp only [Option.map_some,Option.getD_some]
  refine Array.all_eq_true_iff_forall_mem.2 fun e he=>?_
  by_cases hb:Region.binds md e=true
  ·simp [h3 e (Array.mem_toList_iff.2 he) hb]
  ·simp [hb]
theorem Xek {g:Edge→Bool} {all:List Oper} {listed:Array Bool} (hn:listed.size=all.length):∀ (rest done:List Nat),Xea g all done rest=true→(∀ j∈done,listed.getD j false=true)→(∃ i∈rest,listed.getD i true=false) →
 ∃ i o,all[i]?=some o∧listed.getD i true=false∧∀ e∈o.after.toList,g e=true→listed.getD e.on false=true
 | [],_,_,_,⟨i,hi,_⟩=>by cases hi
 | i::rest,done,h,hd,⟨i',hi',hl'⟩=>by
   rw [Xea,Bool.and_eq_true] at h
   obtain ⟨h1,h2⟩:=h
   split at h1
   ·rename_i o ho
    have hlt:i<listed.size:=by rw [hn];exact (List.getElem?_eq_some_iff.1 ho).1
    cases hv:listed.getD i true with
    | false =>
      refine ⟨i,o,ho,hv,fun e he hg=>?_⟩
      have:=List.all_eq_true.1 h1 e he
      rw [hg] at this
      exact hd _ (by simpa using this)
    | true =>
      refine Xek hn rest (i::done) h2 (fun j hj=>?_) ?_
      ·rcases List.mem_cons.1 hj with rfl | hj
       ·simpa [Array.getD_eq_getD_getElem?,hlt] using hv
       ·exact hd j hj
      ·rcases List.mem_cons.1 hi' with rfl | hm
       ·rw [hv] at hl';cases hl'
       ·exact ⟨i',hm,hl'⟩
   ·cases h1
theorem Xmp {md:Region.Mode} {ops:Array Oper} {listed:Array Bool} (hn:listed.size=ops.size) (hd:Xam ops.toList=true) (h:Region.ready md ops listed=[]):left ops.size listed=[]:=by
 cases hl:left ops.size listed with
 | nil=>rfl
 | cons i L =>
   exfalso
   have hi:i∈left ops.size listed:=by rw [hl];simp
   obtain ⟨h1,h2⟩:=Xcl.1 hi
   have hn':listed.size=ops.toList.length:=by simpa using hn
   obtain ⟨hA,hB⟩:=Bool.and_eq_true_iff.1 hd
   obtain ⟨hB,hC⟩:=Bool.and_eq_true_iff.1 hB
   have key:∃ i o,ops.toList[i]?=some o∧listed.getD i true=false∧∀ e∈o.after.toList,Region.binds md e=true→listed.getD e.on false=true:=by
    by_cases hm:md=.gc
    ·subst hm
     have hin:i∈Xu7 ops.toList ops.toList.length []:=by
      have:=List.all_eq_true.1 hC i (List.mem_range.2 (by simpa using h1))
      simpa using this
     obtain ⟨j,o,ho,hj,he⟩:=Xek hn' _ _ hB (fun j hj=>by cases hj) ⟨i,hin,h2⟩
     refine ⟨j,o,ho,hj,fun e hem hb=>he e hem ?_⟩
     unfold Region.binds at hb
     unfold Xpt
     split <;> rename_i hg
     ·rw [hg] at hb;cases hb
     ·rfl
    ·obtain ⟨j,o,ho,hj,he⟩:=Xek hn' _ _ hA (fun j hj=>by cases hj) ⟨i,List.mem_range.2 (by simpa using h1),h2⟩
     refine ⟨j,o,ho,hj,fun e hem hb=>he e hem ?_⟩
     unfold Region.binds at hb
     unfold Xxy
     split <;> rename_i hg
     ·rw [hg] at hb;exact absurd (by simpa using hb) hm
     ·rfl
   obtain ⟨j,o,ho,hj,he⟩:=key
   have ho':ops[j]?=some o:=by rw [←ho,Array.getElem?_toList]
   have hr:j∈Region.ready md ops listed:=Xcm.2 ⟨(Array.getElem?_eq_some_iff.1 ho').1,hj,o,ho',he⟩
   rw [h] at hr
   cases hr
theorem Xt1 {ops:Array Oper} {listed:Array Bool} {i:Nat} (hi:i<listed.size) (hcl:∀ i o,ops[i]?=some o→listed.getD i true=true→∀ e∈o.after.toList,Vh e=true→listed.getD e.on false=true)
 (hr:∀ o,ops[i]?=some o→∀ e∈o.after.toList,Vh e=true→listed.getD e.on false=true) :
 ∀ j o,ops[j]?=some o→(listed.setIfInBounds i true).getD j true=true→∀ e∈o.after.toList,Vh e=true→(listed.setIfInBounds i true).getD e.on false=true:=by
 have mono:∀ j,listed.getD j false=true→(listed.setIfInBounds i true).getD j false=true:=by
  intro j hj
  by_cases e:j=i
  ·subst e;simp [Array.getD_eq_getD_getElem?,hi]
  ·rw [Array.getD_eq_getD_getElem?,Array.getElem?_setIfInBounds_ne (Ne.symm e),←Array.getD_eq_getD_getElem?];exact hj
 intro j o ho hj e he hb
 by_cases hji:j=i
 ·subst hji
  exact mono _ (hr o ho e he hb)
 ·rw [Array.getD_eq_getD_getElem?,Array.getElem?_setIfInBounds_ne (Ne.symm hji),←Array.getD_eq_getD_getElem?] at hj
  exact mono _ (hcl j o ho hj e he hb)
theorem Xxc (hE:C.E=E) (hO:Xgv P E cfg lv) {md:Region.Mode} {ops:Array Oper} (hd:Xam ops.toList=true) (hc:Xpu cfg ops.toList=true) {Q:Exit→Act→World→Prop} (hQ:∀ a w,Post C ts c res a w→Q .normal a w) :
 ∀ (fuel:Nat) (listed:Array Bool) (a:Act) (w:World) (st:St),listed.size=ops.size→(left ops.size listed).length≤fuel →
  (∀ i o,ops[i]?=some o→listed.getD i true=true→∀ e∈o.after.toList,Vh e=true→listed.getD e.on false=true) →
  Xia cfg lv ops.toList (left ops.size listed) st c=some res→InvE C ts w a st→wpAny P md ops Q fuel listed a w:=by
 have done:∀ (listed:Array Bool) (a:Act) (w:World) (st:St),left ops.size listed=[]→Xia cfg lv ops.toList (left ops.size listed) st c=some res→InvE C ts w a st→Q .normal a w:=by
  intro listed a w st hl h I
  rw [hl] at h
  exact hQ a w ⟨st,h,I⟩
 intro fuel
 induction fuel with
 | zero =>
   intro listed a w st hn hl hcl h I
   have hl:left ops.size listed=[]:=List.length_eq_zero_iff.1 (by omega)
   refine ⟨?_,done listed a w st hl h I⟩
   cases hr:Region.ready md ops listed with
   | nil=>rfl
   | cons i L =>
     have:i∈Region.ready md ops listed:=by rw [hr];simp
     obtain ⟨h1,h2,_⟩:=Xcm.1 this
     have:i∈left ops.size listed:=Xcl.2 ⟨h1,h2⟩
     rw [hl] at this
     cases this
 | succ fuel ih =>
   intro listed a w st hn hl hcl h I
   refine ⟨fun hr=>done listed a w st (Xmp hn hd hr) h I,fun i hi=>?_⟩
   obtain ⟨h1,h2,o,ho,h3⟩:=Xcm.1 hi
   have hr:∀ o,ops[i]?=some o→∀ e∈o.after.toList,Vh e=true→listed.getD e.on false=true:=fun o' ho' e he hb=>by
    rw [ho] at ho'
    cases ho'
    exact h3 e he (Xsc md hb)
   have him:i∈left ops.size listed:=Xcl.2 ⟨h1,h2⟩
   obtain ⟨A,B,hAB⟩:=List.append_of_mem him
   have hs:=Xks ops.size listed
   rw [hAB] at hs
   have hAi:∀ j∈A,j<i:=fun j hj=>(List.pairwise_append.1 hs).2.2 j hj i (by simp)
   have hiB:∀ j∈B,i<j:=fun j hj=>(List.pairwise_cons.1 (List.pairwise_append.1 hs).2.1).1 j hj
   have hol:ops.toList[i]?=some o:=by rw [Array.getElem?_toList];exact ho
   rw [hAB] at h
   have hfront:=Xkr (B:=B) hol (A:=A) (fun j hj p hp=>by
    have hcalm:=List.all_eq_true.1 hc i (List.mem_range.2 (by simpa using h1))
    rw [hol] at hcalm
    have:=List.all_eq_true.1 hcalm j (List.mem_range.2 (hAi j hj))
    rw [hp] at this
    rw [Bool.or_eq_true] at this
    rcases this with hb | hb
    ·exfalso
     have hlj:=Xsb (Xgx hcl _ i j hb hr)
     have:j∈left ops.size listed:=by rw [hAB];simp [hj]
     rw [(Xcl.1 this).2] at hlj
     cases hlj
    ·rw [Bool.and_eq_true,Bool.and_eq_true] at hb
     exact ⟨hb.1.1,hb.1.2,hb.2⟩) h
   have hAB':left ops.size (listed.setIfInBounds i true)=A++B:=by
    rw [Xsa hn h1,hAB,List.filter_append,List.filter_cons]
    simp only [ne_eq,not_true_eq_false,decide_false,Bool.false_eq_true,if_false]
    congr 1
    ·apply List.filter_eq_self.2
     intro j hj
     have:=hAi j hj
     simp;omega
    ·apply List.filter_eq_self.2
     intro j hj
     have:=hiB j hj
     simp;omega
   refine wpOp_mono ?_ (Xr8 hE hO (Q:=Q) ho hfront I)
   intro a' w' ⟨st',h4,I'⟩
   refine ih (listed.setIfInBounds i true) a' w' st' (by simpa using hn) ?_ (Xt1 (by omega) hcl hr) (by rw [hAB'];exact h4) I'
   rw [hAB']
   rw [hAB] at hl
   simp at hl ⊢
   omega
theorem Xfo {d:List Bool} {i j:Nat} (hi:i<d.length):Ym (bset d i) j=if j=i then true else Ym d j:=by
 induction d generalizing i j with
 | nil=>simp at hi
 | cons b d ih=>cases i with
   | zero=>cases j with
     | zero=>simp [bset,Ym]
     | succ j=>simp [bset,Ym]
   | succ i=>cases j with
     | zero=>simp [bset,Ym]
     | succ j=>simp only [bset,Ym];rw [ih (by simpa using hi)];simp
theorem Xsd (d:List Bool) (i:Nat):(bset d i).length=d.length:=by
 induction d generalizing i with
 | nil=>rfl
 | cons b d ih=>cases i <;> simp [bset,ih]
theorem Xzj (s:List (List AV)) (k:List (List AV)→R):Xx0 s k=k s:=by
 induction s generalizing k with
 | nil=>rfl
 | cons e s ih=>exact ih _
theorem Xse:∀ (h:Heap) (k:Heap→R),Xu9 h k=k h
 | [],_=>rfl
 | x::l,k=>by rw [Xu9,Xse l]
theorem Xjv (st:St) (k:St→R):Xg5 st k=k st:=(Xzj _ _).trans (Xse _ _)
theorem Xt2 (l:List Oper) (k:List Bool→R):Xpw l k=k (Xg6 l):=by
 induction l generalizing k with
 | nil=>rfl
 | cons o l ih=>exact ih _
theorem Xt3:∀ {a b:List Bool},eqB a b=true→a=b
 | [],[],_=>rfl
 | true::a,true::b,h=>by rw [Xt3 (a:=a) (b:=b) (by simpa [eqB] using h)]
 | false::a,false::b,h=>by rw [Xt3 (a:=a) (b:=b) (by simpa [eqB] using h)]
 | true::a,false::b,h=>by simp [eqB] at h
 | false::a,true::b,h=>by simp [eqB] at h
 | [],_::_,h=>by simp [eqB] at h
 | _::_,[],h=>by simp [eqB] at h
theorem Xo3 {d:List Bool}:∀ {l:List Edge},(∀ e∈l,Vh e=true→Ym d e.on=true)→Xan d l=true
 | [],_=>rfl
 | e::l,h=>by
   have ih:=Xo3 (d:=d) (l:=l) fun e he=>h e (List.mem_cons_of_mem _ he)
   unfold Xan
   split
   ·exact ih
   ·rename_i hb
    rw [h e (List.mem_cons_self ..) hb]
    exact ih
theorem Xzk {x:R} {k:St→R} (h:bndS x k=some res):∃ r,x=some r∧k (decI r)=some res:=by
 unfold bndS at h;exact Xh6 h
theorem Xvr {a b:St} {x:R} (h:eqS a b x=some res):a=b∧x=some res:=by
 unfold eqS at h;split at h
 ·rename_i e;exact ⟨e,h⟩
 ·cases h
theorem Xo4 (l:List Bool) (k:List Bool→R):Xjf l k=k l:=by
 induction l generalizing k with
 | nil=>rfl
 | cons b l ih=>cases b <;> exact ih _
theorem Xmq {d:List Bool}:∀ {l:List Oper} {k j:Nat} {o:Oper},l[j]?=some o→Ym d (k+j)=false→Xan d o.after.toList=true→(k+j,o)∈Xe5 d k l
 | [],k,j,o,h,_,_=>by simp at h
 | p::l,k,0,o,h,h1,h2=>by
   simp at h
   subst h
   rw [Xe5]
   simp only [Nat.add_zero] at h1 ⊢
   rw [h1,h2]
   exact List.mem_cons_self
 | p::l,k,j+1,o,h,h1,h2=>by
   have ih:=Xmq (l:=l) (k:=k+1) (j:=j) (o:=o) (by simpa using h) (by rw [show k+1+j=k+(j+1) by omega];exact h1) h2
   rw [show k+1+j=k+(j+1) by omega] at ih
   rw [Xe5]
   split
   ·exact ih
   ·split
    ·exact ih
    ·exact List.mem_cons_of_mem _ ih
theorem Xzl {d:List Bool} {s:St} {acc:Lvl} {k:Lvl→R} (h:addT d s acc k=some res):∃ acc',k acc'=some res∧(d,s)∈acc'∧∀ x∈acc,x∈acc':=by
 have hf:∀ {acc:Lvl} {st:St},Xvb d acc=some st→(d,st)∈acc:=by
  intro acc st
  induction acc with
  | nil=>intro h;cases h
  | cons x l ih =>
    obtain ⟨d',st'⟩:=x
    intro h
    simp only [Xvb] at h
    split at h
    ·rename_i e
     cases h
     rw [←Xt3 e]
     exact List.mem_cons_self
    ·exact List.mem_cons_of_mem _ (ih h)
 unfold addT at h
 split at h
 ·rename_i st' e
  obtain ⟨h1,h2⟩:=Xvr h
  subst h1
  exact ⟨acc,h2,hf e,fun x hx=>hx⟩
 ·exact ⟨_,h,by simp,fun x hx=>by simp [hx]⟩
theorem Xsf {all:List Oper} {z:List Bool} {slot:Nat} {d:List Bool} {s:St}:∀ {L:List (Nat×Oper)} {acc:Lvl} {k:Lvl→R},expZ cfg lv all z slot d s L acc k=some res →
 ∃ acc',k acc'=some res∧(∀ x∈acc,x∈acc')∧∀ i o,(i,o)∈L→∃ r,Xoc cfg lv all z slot d i o s=some r∧(Xdd (bset d i) (Xbq all z all (bset d i)),decI r)∈acc'
 | [],acc,k,h=>⟨acc,by rw [Xl0] at h;exact h,fun x hx=>hx,fun i o h=>by cases h⟩
 | (i,o)::L,acc,k,h=>by
   rw [Xl0] at h
   unfold Xx9 at h
   simp only at h
   obtain ⟨r,hx,h⟩:=Xzk h
   rw [Xjv,Xo4] at h
   obtain ⟨acc1,h,hm,hsub⟩:=Xzl h
   obtain ⟨acc',h1,h2,h3⟩:=Xsf h
   refine ⟨acc',h1,fun x hx=>h2 x (hsub x hx),fun i' o' hmem=>?_⟩
   rcases List.mem_cons.1 hmem with e | e
   ·cases e
    exact ⟨r,hx,h2 _ hm⟩
   ·exact h3 i' o' e
theorem Xmr {all:List Oper} {z:List Bool} {slot:Nat}:∀ {l acc:Lvl} {k:Lvl→R},lvlZ cfg lv all z slot l acc k=some res →
 ∃ acc',k acc'=some res∧(∀ x∈acc,x∈acc')∧∀ d s,(d,s)∈l→allB d=false∧∀ j o,all[j]?=some o→Ym d j=false→Xan d o.after.toList=true →
  ∃ r,Xoc cfg lv all z slot d j o s=some r∧(Xdd (bset d j) (Xbq all z all (bset d j)),decI r)∈acc'
 | [],acc,k,h=>⟨acc,by rw [Xl1] at h;exact h,fun x hx=>hx,fun d s hd=>by cases hd⟩
 | (d,s)::l,acc,k,h=>by
   rw [Xl1] at h
   unfold Xyc at h
   simp only at h
   split at h
   ·cases h
   ·rename_i hd
    obtain ⟨acc1,h,h1,h2⟩:=Xsf h
    obtain ⟨acc',h,h3,h4⟩:=Xmr h
    refine ⟨acc',h,fun x hx=>h3 x (h1 x hx),fun d' s' hm=>?_⟩
    rcases List.mem_cons.1 hm with e | e
    ·cases e
     refine ⟨hd,fun j o ho hb hr=>?_⟩
     have hmem:=Xmq (d:=d) (k:=0) ho (by rw [Nat.zero_add];exact hb) hr
     rw [Nat.zero_add] at hmem
     obtain ⟨r,hx,hmm⟩:=h2 _ _ hmem
     exact ⟨r,hx,h3 _ hmm⟩
    ·exact h4 d' s' e
theorem Xdq {o:Oper} {j:Nat} (h:hasE o j=true):∃ e∈o.after.toList,e.on=j∧Vh e=true:=by
 unfold hasE at h
 obtain ⟨e,he,h⟩:=List.any_eq_true.1 h
 simp only [Bool.and_eq_true,beq_iff_eq] at h
 exact ⟨e,he,h.1,h.2⟩
theorem Xms {all:List Oper} {i:Nat} {o:Oper} {t x:Tmp}:∀ {l:List Oper} {j:Nat},Xva all i o t x j l=true→∀ m p,l[m]?=some p→Xta all i o t x (j+m) p=true
 | [],j,_,m,p,h=>by simp at h
 | q::l,j,h,m,p,hm=>by
   rw [Xva] at h
   split at h
   ·rename_i hq
    cases m with
    | zero=>simp at hm;subst hm;exact hq
    | succ m =>
      have:=Xms h m p (by simpa using hm)
      rw [show j+1+m=j+(m+1) by omega] at this
      exact this
   ·cases h
structure Lz (all:List Oper) (i:Nat) (o:Oper) (t x:Tmp):Prop where
 gd:o.guard=none
 dst:o.dst=some t
 kind:Xpx o=some x
 ne:t≠x
 oth:∀ j p,all[j]?=some p→j≠i→p.dst≠some t∧(p.dst=some x→hasE o j=true)∧(Xcz all p t=true→hasE p i=true)
theorem Xo5 {all:List Oper} {i:Nat} {o:Oper} (h:lzOp all i o=true):∃ t x,Lz all i o t x:=by
 unfold lzOp at h
 split at h
 ·cases h
 ·rename_i hg
  split at h
  ·cases h
  ·rename_i t ht
   split at h
   ·cases h
   ·rename_i x hx
    split at h
    ·cases h
    ·rename_i hne
     refine ⟨t,x,hg,ht,hx,by simpa using hne,fun j p hp hj=>?_⟩
     have:=Xms h j p hp
     rw [Nat.zero_add] at this
     unfold Xta at this
     simp only [Bool.or_eq_true,Bool.and_eq_true,beq_iff_eq,bne_iff_ne,ne_eq,Bool.not_eq_true'] at this
     rcases this with h | ⟨h1,h2,h3⟩
     ·exact absurd h hj
     ·exact ⟨h1,fun e=>h2.resolve_left (fun hn=>hn e),fun e=>h3.resolve_left (by rw [e];simp)⟩
theorem Xzm (hT:Z2 P cfg.ty) {o:Oper} {x:Tmp} {slot:Nat} {b:Act} (hk:Xpx o=some x) (h:evOp cfg lv slot o st c=some res) (I:Inv C ts w b st wr g) :
 ∃ v,∀ (ρ:Operand→Value),ρ (.tmp x)=b.eval (.tmp x)→(execOp ρ o).run P w=.ok (.value v) w:=by
 unfold Xpx at hk
 split at hk
 ·rename_i y ho
  split at hk
  ·cases hk
   exact ⟨b.eval (.tmp x),fun ρ hρ=>by simp only [execOp,ho,hρ,Sem.run_pure]⟩
  ·cases hk
 ·rename_i y ho
  split at hk
  ·cases hk
   simp only [evOp,ho] at h
   obtain ⟨av,h,H⟩:=Yd h I.good.env
   split at h
   ·generalize hx:b.eval (.tmp x)=vx at H
    refine ⟨vx,fun ρ hρ=>?_⟩
    cases H
    simp only [execOp,ho,hρ,Sem.run_pure]
   ·generalize hx:b.eval (.tmp x)=vx at H
    refine ⟨vx,fun ρ hρ=>?_⟩
    cases H
    simp only [execOp,ho,hρ,Sem.run_pure]
   ·cases h
  ·cases hk
 ·rename_i s y f ho
  split at hk
  ·cases hk
   simp only [evOp,ho] at h
   obtain ⟨av,h,H⟩:=Yd h I.good.env
   obtain ⟨ti,hti,h⟩:=Y1 h
   split at h
   ·rename_i fs r p i j hs _
    split at h
    ·rename_i off ft hf
     obtain ⟨tj,htj,h⟩:=Y1 h
     split at h
     ·cases h
     ·rename_i hne
      generalize hx:b.eval (.tmp x)=vx at H
      cases H with
      | @ptr _ _ _ _ sz rows bb oo n cp h1 =>
        refine ⟨.pointer (some ⟨bb,oo+i*sz+(j+off),none⟩),fun ρ hρ=>?_⟩
        obtain ⟨fa,hu,hfs⟩:=(hT _ hti).struct (w:=w) hs
        obtain ⟨fd,hf1,hf2,hf3⟩:=hfs _ _ hf
        simp only at hf2 hf3 hu
        have hsz:=(hT _ htj).sized (w:=w)
        simp only at hsz
        simp only [execOp,ho,hρ,hx,Instr.fieldAt,Sem.run_bind,hu,Result.andThen_ok,hf1,Instr.sureAddr,Sem.run_pure,fieldPlace,hf3,hsz]
        rw [if_neg (fun e=>hne e)]
        simp only [Sem.run_pure,Result.andThen_ok,hf2,Addr.add_eq,Nat.add_assoc]
    ·cases h
   ·cases h
  ·cases hk
 ·rename_i ty y ho
  split at hk
  ·cases hk
   simp only [evOp,ho] at h
   obtain ⟨av,h,H⟩:=Yd h I.good.env
   obtain ⟨u,av',h1,h2,h⟩:=Xfb (P:=P) hT I.good.rel h H
   exact ⟨u,fun ρ hρ=>by simp only [execOp,ho,hρ,Sem.run_bind,h1,Result.andThen_ok,Sem.run_pure]⟩
  ·cases hk
 ·cases hk
structure Pn (P:Program) (ops:Array Oper) (z:List Bool) (listed:Array Bool) (d:List Bool) (a b:Act) (w:World) (m:Nat):Prop where
 size:b.tmps.size=a.tmps.size
 defs:b.defers=a.defers
 sub:∀ i,listed.getD i false=true→Ym d i=true
 dcl:∀ i o,ops.toList[i]?=some o→Ym d i=true→∀ e∈o.after.toList,Vh e=true→Ym d e.on=true
 pend:∀ i o,ops.toList[i]?=some o→Ym d i=true→listed.getD i false=false→Ym z i=true∧∃ t x,Lz ops.toList i o t x∧(i<m→∃ v,(t<b.tmps.size→b.tmps.getD t undef=v) ∧
  ∀ (ρ:Operand→Value),ρ (.tmp x)=b.eval (.tmp x)→(execOp ρ o).run P w=.ok (.value v) w)
 same:∀ t,(∀ i o,ops.toList[i]?=some o→Ym d i=true→listed.getD i false=false→o.dst≠some t)→b.tmps.getD t undef=a.tmps.getD t undef
theorem V4 {b:Act} {t:Nat} {v:Value} {s:Nat}:(b.put (some t) v).tmps.getD s undef=if s=t∧t<b.tmps.size then v else b.tmps.getD s undef:=by
 unfold Act.put
 simp only [Array.getD_eq_getD_getElem?,Array.getElem?_setIfInBounds]
 by_cases e:t=s
 ·subst e
  by_cases h:t<b.tmps.size
  ·simp [h]
  ·simp [h]
 ·rw [if_neg e,if_neg (fun h=>e h.1.symm)]
theorem Q3 {b:Act} {d:Option Tmp} {v:Value}:(b.put d v).tmps.size=b.tmps.size:=by
 unfold Act.put;split <;> simp
theorem Xdr {b:Act} {d:Option Tmp} {v:Value}:(b.put d v).defers=b.defers:=by
 unfold Act.put;split <;> rfl
theorem Xcn {listed:Array Bool} {i j:Nat} (hi:i<listed.size):(listed.setIfInBounds i true).getD j false=if j=i then true else listed.getD j false:=by
 simp only [Array.getD_eq_getD_getElem?,Array.getElem?_setIfInBounds]
 by_cases e:i=j
 ·subst e;simp [hi]
 ·rw [if_neg e,if_neg (fun h=>e h.symm)]
theorem Xjw {d:List Bool} {i:Nat} (h:Ym d i=false):i<d.length:=by
 induction d generalizing i with
 | nil=>simp [Ym] at h
 | cons b l ih=>cases i with
   | zero=>simp
   | succ i=>have:=ih (i:=i) h;simpa using this
theorem Pn.lookSame {ops:Array Oper} {z:List Bool} {listed:Array Bool} {d:List Bool} {a b:Act} {m i:Nat} {o:Oper} {t:Nat} (N:Pn P ops z listed d a b w m) (ho:ops.toList[i]?=some o)
 (hr:∀ e∈o.after.toList,Vh e=true→listed.getD e.on false=true) (hi:Ym d i=false) (hl:Xcz ops.toList o t=true):b.tmps.getD t undef=a.tmps.getD t undef:=by
 refine N.same t fun j p hp hj hlj e=>?_
 obtain ⟨_,t',x',L,_⟩:=N.pend j p hp hj hlj
 have:t'=t:=by have:=L.dst;rw [e] at this;cases this;rfl
 subst this
 have hne:i≠j:=fun e2=>by rw [e2,hj] at hi;cases hi
 obtain ⟨e',he',h1,h2⟩:=Xdq ((L.oth i o ho hne).2.2 hl)
 have:=hr e' he' h2
 rw [h1,hlj] at this
 cases this
theorem X1g {o:Oper} {a b:Act} {w:World} {N K:Act→World→Prop} {Q:Exit→Act→World→Prop} (h:o.wp P b w N fun _ _ _=>False) (hx:execOp a.eval o=execOp b.eval o) (hd:b.defers=a.defers)
 (hK:∀ (dfs:List Deferred) (v:Value) (w':World),N ({b with defers:=dfs}.put o.dst v) w'→K ({a with defers:=dfs}.put o.dst v) w'):o.wp P a w K Q:=by
 have hv:∀ v w',N (b.put o.dst v) w'→K (a.put o.dst v) w':=fun v w' hn=>by
  have:=hK b.defers v w' hn
  rw [hd] at this
  exact this
 unfold Oper.wp at *
 rw [hx]
 generalize (execOp b.eval o).run P w=r at *
 cases r with
 | ok n w' =>
   cases n <;> simp only [Oper.upon] at h ⊢
   case value v=>exact hv _ _ h
   case skip=>exact hv _ _ h
   case defer df=>rw [←hd];exact hK _ _ _ h
   case enter f args =>
    refine Calls.mono h fun e w'' he=>?_
    cases e with
    | returned v=>exact hv _ _ he
    | panicked chain=>exact he.elim
    | outgrown=>obtain ⟨_,_,he⟩:=he;exact he.elim
   case row rw_ args=>exact Rows.mono h fun v w'' he=>hv _ _ he
 | halt y w'=>cases y <;> simp only [Oper.upon] at h
theorem Pn.step {ops:Array Oper} {z:List Bool} {listed:Array Bool} {d:List Bool} {a b:Act} {m i:Nat} {o:Oper} (w1:World) (N:Pn P ops z listed d a b w m) (ho:ops.toList[i]?=some o) (hi:Ym d i=false) (hsz:i<listed.size)
 (hp:∀ e∈o.after.toList,Vh e=true→Ym d e.on=true) (dfs:List Deferred) (v:Value):Pn P ops z (listed.setIfInBounds i true) (bset d i) ({a with defers:=dfs}.put o.dst v) ({b with defers:=dfs}.put o.dst v) w1 0:=by
 have hlt:=Xjw hi
 have hb:∀ j,Ym (bset d i) j=if j=i then true else Ym d j:=fun j=>Xfo hlt
 have mono:∀ {j},Ym d j=true→Ym (bset d i) j=true:=fun {j} h=>by rw [hb];split <;> simp [h]
 have old:∀ j,Ym (bset d i) j=true→(listed.setIfInBounds i true).getD j false=false→j≠i∧Ym d j=true∧listed.getD j false=false:=by
  intro j h1 h2
  rw [Xcn hsz] at h2
  rw [hb] at h1
  by_cases e:j=i
  ·rw [if_pos e] at h2;cases h2
  ·rw [if_neg e] at h1 h2;exact ⟨e,h1,h2⟩
 refine ⟨by rw [Q3,Q3];exact N.size,by rw [Xdr,Xdr],?_,?_,?_,?_⟩
 ·intro j hj
  rw [Xcn hsz] at hj
  rw [hb]
  split
  ·rfl
  ·rename_i e
   rw [if_neg e] at hj
   exact N.sub j hj
 ·intro j q hq hj e he hbe
  rw [hb] at hj
  by_cases e2:j=i
  ·subst e2
   rw [ho] at hq;cases hq
   exact mono (hp e he hbe)
  ·rw [if_neg e2] at hj
   exact mono (N.dcl j q hq hj e he hbe)
 ·intro j q hq h1 h2
  obtain ⟨hne,hj,hlj⟩:=old j h1 h2
  obtain ⟨hzj,t,x,L,_⟩:=N.pend j q hq hj hlj
  exact ⟨hzj,t,x,L,fun h=>absurd h (Nat.not_lt_zero _)⟩
 ·intro s hs
  cases hod:o.dst with
  | none =>
    refine N.same s fun j q hq hj hlj=>?_
    have hne:j≠i:=fun e=>by rw [e,hi] at hj;cases hj
    exact hs j q hq (mono hj) (by rw [Xcn hsz,if_neg hne];exact hlj)
  | some t0 =>
    rw [V4,V4]
    show (if s=t0∧t0<b.tmps.size then v else b.tmps.getD s undef)=if s=t0∧t0<a.tmps.size then v else a.tmps.getD s undef
    rw [N.size]
    split
    ·rfl
    ·refine N.same s fun j q hq hj hlj=>?_
     have hne:j≠i:=fun e=>by rw [e,hi] at hj;cases hj
     exact hs j q hq (mono hj) (by rw [Xcn hsz,if_neg hne];exact hlj)
theorem Xmt {z d:List Bool}:∀ {l:List Oper} {k i:Nat} {o:Oper},Xkj z d k l=some (i,o)→∃ m,i=k+m∧l[m]?=some o∧Ym z i=true∧Ym d i=false∧Xan d o.after.toList=true
 | [],k,i,o,h=>by cases h
 | p::l,k,i,o,h=>by
   have rec_:Xkj z d (k+1) l=some (i,o)→∃ m,i=k+m∧(p::l)[m]?=some o∧Ym z i=true∧Ym d i=false∧Xan d o.after.toList=true:=by
    intro h
    obtain ⟨m,h1,h2,h3⟩:=Xmt h
    exact ⟨m+1,by omega,by simpa using h2,h3⟩
   rw [Xkj] at h
   split at h
   ·exact rec_ h
   ·rename_i hz
    split at h
    ·exact rec_ h
    ·rename_i hd
     split at h
     ·rename_i hr
      cases h
      exact ⟨0,rfl,rfl,hz,hd,hr⟩
     ·exact rec_ h
theorem Xkt {d:List Bool}:∀ {l:List Edge},Xan d l=true→∀ e∈l,Vh e=true→Ym d e.on=true
 | [],_,e,he,_=>by cases he
 | e'::l,h,e,he,hb=>by
   rw [Xan] at h
   rcases List.mem_cons.1 he with rfl | he
   ·rw [hb] at h
    split at h
    ·rename_i h2;cases h2
    ·split at h
     ·assumption
     ·cases h
   ·refine Xkt (l:=l) ?_ e he hb
    split at h
    ·exact h
    ·split at h
     ·exact h
     ·cases h
theorem Xhf (hT:Z2 P cfg.ty) (hE:C.E=E) (hO:Xgv P E cfg lv) {ops:Array Oper} {z:List Bool} (hz:∀ i o,ops.toList[i]?=some o→Ym z i=true→lzOp ops.toList i o=true) {slot:Nat} {listed:Array Bool} {a:Act} {w:World} :
 ∀ {n:List Oper} {d:List Bool} {b:Act} {st:St} {k:St→R} {r:Res},runZ cfg lv slot (Xbq ops.toList z n d) st k=some r→Pn P ops z listed d a b w ops.size→InvE C ts w b st →
  ∃ b' st',k st'=some r∧InvE C ts w b' st'∧Pn P ops z listed (Xdd d (Xbq ops.toList z n d)) a b' w ops.size∧(Xdd d (Xbq ops.toList z n d)).length=d.length
 | [],d,b,st,k,r,h,N,I=>by
   rw [Xbq,Xjg] at h
   exact ⟨b,st,h,I,N,rfl⟩
 | _::n,d,b,st,k,r,h,N,I=>by
   rw [Xbq] at h ⊢
   cases hn:Xkj z d 0 ops.toList with
   | none =>
     rw [hn] at h
     simp only at h
     rw [Xjg] at h
     exact ⟨b,st,h,I,N,rfl⟩
   | some p =>
     obtain ⟨i,o⟩:=p
     rw [hn] at h
     simp only at h ⊢
     obtain ⟨m,hi0,ho,hzi,hdi,hre⟩:=Xmt hn
     have:i=m:=by omega
     subst this
     rw [Xjg] at h
     unfold Xx3 at h
     simp only at h
     obtain ⟨t,x,L⟩:=Xo5 (hz i o ho hzi)
     obtain ⟨wr,g,I0⟩:=I
     obtain ⟨v,hv⟩:=Xzm hT L.kind h I0
     have hwp:=hO C hE ts o _ st _ r b w (fun _ _ _=>False) h ⟨wr,g,I0⟩
     unfold Oper.wp at hwp
     rw [hv b.eval rfl,Oper.upon_value,L.dst] at hwp
     obtain ⟨st1,h1,I1⟩:=hwp
     have hlt:=Xjw hdi
     have hb:∀ j,Ym (bset d i) j=if j=i then true else Ym d j:=fun j=>Xfo hlt
     have mono:∀ {j},Ym d j=true→Ym (bset d i) j=true:=fun {j} h=>by rw [hb];split <;> simp [h]
     have hli:listed.getD i false=false:=by
      cases hh:listed.getD i false with
      | false=>rfl
      | true=>have:=N.sub i hh;rw [hdi] at this;cases this
     have N1:Pn P ops z listed (bset d i) a (b.put (some t) v) w ops.size:=by
      refine ⟨by rw [Q3];exact N.size,by rw [Xdr];exact N.defs,fun j hj=>mono (N.sub j hj),?_,?_,?_⟩
      ·intro j q hq hj e he hbe
       rw [hb] at hj
       by_cases e2:j=i
       ·subst e2
        rw [ho] at hq;cases hq
        exact mono (Xkt hre e he hbe)
       ·rw [if_neg e2] at hj
        exact mono (N.dcl j q hq hj e he hbe)
      ·intro j q hq hj hlj
       by_cases e2:j=i
       ·subst e2
        rw [ho] at hq;cases hq
        refine ⟨hzi,t,x,L,fun _=>⟨v,fun hlt=>?_,fun ρ hρ=>hv ρ ?_⟩⟩
        ·rw [Q3] at hlt
         rw [V4,if_pos ⟨rfl,hlt⟩]
        ·rw [hρ]
         show (b.put (some t) v).tmps.getD x undef=b.tmps.getD x undef
         rw [V4,if_neg (fun h=>L.ne h.1.symm)]
       ·rw [hb,if_neg e2] at hj
        obtain ⟨hzj,t',x',L',F⟩:=N.pend j q hq hj hlj
        obtain ⟨u,hu,hrun⟩:=F (by have:=(List.getElem?_eq_some_iff.1 hq).1;simpa using this)
        have hoth:=L'.oth i o ho (fun e=>e2 e.symm)
        refine ⟨hzj,t',x',L',fun _=>⟨u,fun hlt=>?_,fun ρ hρ=>hrun ρ ?_⟩⟩
        ·rw [Q3] at hlt
         rw [V4,if_neg (fun h=>hoth.1 (by rw [L.dst,h.1]))]
         exact hu hlt
        ·rw [hρ]
         show (b.put (some t) v).tmps.getD x' undef=b.tmps.getD x' undef
         rw [V4,if_neg (fun h=>?_)]
         obtain ⟨e',he',h3,h4⟩:=Xdq (hoth.2.1 (by rw [L.dst,h.1]))
         have:=N.dcl j q hq hj e' he' h4
         rw [h3,hdi] at this
         cases this
      ·intro s hs
       rw [V4,if_neg (fun h=>hs i o ho (by rw [hb,if_pos rfl]) hli (by rw [L.dst,h.1]))]
       exact N.same s fun j q hq hj hlj=>hs j q hq (mono hj) hlj
     obtain ⟨b',st',h2,I2,N2,hln⟩:=Xhf hT hE hO hz h1 N1 I1
     refine ⟨b',st',h2,I2,N2,?_⟩
     rw [Xdd,hln,Xsd]
theorem Xsg {g:Edge→Bool} {all:List Oper}:∀ (n s:Nat) (done:List Nat),Xea g all done (List.range' s n)=true→(∀ x∈done,x<s)→∀ i o,s≤i→i<s+n→all[i]?=some o→∀ e∈o.after.toList,g e=true→e.on<i
 | 0,s,done,_,_,i,o,h1,h2,_=>by omega
 | n+1,s,done,h,hd,i,o,h1,h2,ho=>by
   rw [List.range'_succ,Xea,Bool.and_eq_true] at h
   intro e he hg
   by_cases hi:i=s
   ·subst hi
    have:=h.1
    rw [ho] at this
    have:=List.all_eq_true.1 this e he
    rw [hg] at this
    exact hd _ (by simpa using this)
   ·exact Xsg n (s+1) (s::done) h.2 (fun x hx=>by
     rcases List.mem_cons.1 hx with rfl | hx
     ·omega
     ·have:=hd x hx;omega) i o (by omega) (by omega) ho e he hg
theorem Xt4 {all:List Oper} (h:Xam all=true) {i:Nat} {o:Oper} (ho:all[i]?=some o) {e:Edge} (he:e∈o.after.toList) (hb:Vh e=true):e.on<i:=by
 unfold Xam at h
 rw [Bool.and_eq_true,List.range_eq_range'] at h
 refine Xsg _ 0 [] h.1 (fun x hx=>by cases hx) i o (by omega) ?_ ho e he ?_
 ·have:=(List.getElem?_eq_some_iff.1 ho).1;omega
 ·unfold Vh at hb
  unfold Xxy
  split at hb <;> simp_all
theorem Xel (hT:Z2 P cfg.ty) (hE:C.E=E) (hO:Xgv P E cfg lv) {ops:Array Oper} (hd:Xam ops.toList=true) {z:List Bool} (hz:∀ i o,ops.toList[i]?=some o→Ym z i=true→lzOp ops.toList i o=true) {slot:Nat} {listed:Array Bool} {a:Act} {w:World}
 {d d':List Bool} {oi:Oper} (hdd:∀ j,Ym d' j=true→listed.getD j false=false→Ym d j=true) (hoi:∀ j,hasE oi j=true→listed.getD j false=true) :
 ∀ (l:List Oper) (j:Nat) {b:Act} {st:St} {k:R} {r:Res},(∀ m,l[m]?=ops.toList[j+m]?)→chkZ cfg lv slot (Xe6 z d oi j l) st k=some r→Pn P ops z listed d' a b w j→InvE C ts w b st →
  ∃ b',k=some r∧InvE C ts w b' st∧Pn P ops z listed d' a b' w (j+l.length)
 | [],j,b,st,k,r,_,h,N,I=>by
   rw [Xe6,Xlz] at h
   exact ⟨b,h,I,N⟩
 | p::l,j,b,st,k,r,hl,h,N,I=>by
   have ho:ops.toList[j]?=some p:=by have:=hl 0;simpa using this.symm
   have hl':∀ m,l[m]?=ops.toList[j+1+m]?:=fun m=>by
    have:=hl (m+1)
    rw [show j+1+m=j+(m+1) by omega]
    simpa using this
   have next:(Ym d' j=true→listed.getD j false=false→False)→Pn P ops z listed d' a b w (j+1):=fun hno=>by
    refine ⟨N.size,N.defs,N.sub,N.dcl,fun i o hi h1 h2=>?_,N.same⟩
    obtain ⟨hzi,t,x,L,F⟩:=N.pend i o hi h1 h2
    refine ⟨hzi,t,x,L,fun hlt=>F ?_⟩
    have:i≠j:=fun e=>by subst e;exact hno h1 h2
    omega
   have skip:(Ym d' j=true→listed.getD j false=false→False)→chkZ cfg lv slot (Xe6 z d oi (j+1) l) st k=some r→∃ b',k=some r∧InvE C ts w b' st∧Pn P ops z listed d' a b' w (j+(p::l).length):=fun hno h=>by
    obtain ⟨b',h1,h2,h3⟩:=Xel hT hE hO hd hz hdd hoi l (j+1) hl' h (next hno) I
    exact ⟨b',h1,h2,by rw [List.length_cons,show j+(l.length+1)=j+1+l.length by omega];exact h3⟩
   rw [Xe6] at h
   split at h
   ·rename_i hzj
    exact skip (fun h1 h2=>by have:=(N.pend j p ho h1 h2).1;rw [hzj] at this;cases this) h
   ·rename_i hzj
    split at h
    ·rename_i hdj
     exact skip (fun h1 h2=>by rw [hdd j h1 h2] at hdj;cases hdj) h
    ·split at h
     ·rename_i hej
      exact skip (fun h1 h2=>by rw [hoi j hej] at h2;cases h2) h
     ·rw [Xlz] at h
      unfold Xx6 at h
      simp only at h
      obtain ⟨t,x,L⟩:=Xo5 (hz j p ho hzj)
      obtain ⟨wr,g,I0⟩:=I
      obtain ⟨v,hv⟩:=Xzm hT L.kind h I0
      have hwp:=hO C hE ts p _ st _ r b w (fun _ _ _=>False) h ⟨wr,g,I0⟩
      unfold Oper.wp at hwp
      rw [hv b.eval rfl,Oper.upon_value,L.dst] at hwp
      obtain ⟨st1,h1,I1⟩:=hwp
      obtain ⟨rfl,h1⟩:=Xvr h1
      by_cases hp:Ym d' j=true∧listed.getD j false=false
      ·have N1:Pn P ops z listed d' a (b.put (some t) v) w (j+1):=by
        refine ⟨by rw [Q3];exact N.size,by rw [Xdr];exact N.defs,N.sub,N.dcl,fun i q hq h3 h4=>?_,fun s hs=>?_⟩
        ·obtain ⟨hzi,t',x',L',F⟩:=N.pend i q hq h3 h4
         refine ⟨hzi,t',x',L',fun hlt=>?_⟩
         by_cases e:i=j
         ·subst e
          rw [ho] at hq;cases hq
          have et:t'=t:=by have:=L'.dst;rw [L.dst] at this;cases this;rfl
          have ex:x'=x:=by have:=L'.kind;rw [L.kind] at this;cases this;rfl
          subst et;subst ex
          refine ⟨v,fun hlt=>?_,fun ρ hρ=>hv ρ ?_⟩
          ·rw [Q3] at hlt
           rw [V4,if_pos ⟨rfl,hlt⟩]
          ·rw [hρ]
           show (b.put (some t') v).tmps.getD x' undef=b.tmps.getD x' undef
           rw [V4,if_neg (fun h=>L.ne h.1.symm)]
         ·obtain ⟨u,hu,hrun⟩:=F (by omega)
          have hoth:=L'.oth j p ho (fun e'=>e e'.symm)
          refine ⟨u,fun hlt=>?_,fun ρ hρ=>hrun ρ ?_⟩
          ·rw [Q3] at hlt
           rw [V4,if_neg (fun h=>hoth.1 (by rw [L.dst,h.1]))]
           exact hu hlt
          ·rw [hρ]
           show (b.put (some t) v).tmps.getD x' undef=b.tmps.getD x' undef
           rw [V4,if_neg (fun h=>?_)]
           obtain ⟨e',he',h5,h6⟩:=Xdq (hoth.2.1 (by rw [L.dst,h.1]))
           have:=Xt4 hd hq he' h6
           omega
        ·rw [V4,if_neg (fun h=>hs j p ho hp.1 hp.2 (by rw [L.dst,h.1]))]
         exact N.same s hs
       obtain ⟨b',h5,h6,h7⟩:=Xel hT hE hO hd hz hdd hoi l (j+1) hl' h1 N1 I1
       exact ⟨b',h5,h6,by rw [List.length_cons,show j+(l.length+1)=j+1+l.length by omega];exact h7⟩
      ·obtain ⟨b',h5,h6,h7⟩:=Xel hT hE hO hd hz hdd hoi l (j+1) hl' h1 (next fun h1 h2=>hp ⟨h1,h2⟩) ⟨wr,g,I0⟩
       exact ⟨b',h5,h6,by rw [List.length_cons,show j+(l.length+1)=j+1+l.length by omega];exact h7⟩
theorem Xt5 {d:List Bool} (h:∀ i,i<d.length→Ym d i=true):allB d=true:=by
 induction d with
 | nil=>rfl
 | cons b l ih =>
   have h0:=h 0 (by simp)
   simp only [Ym] at h0
   subst h0
   exact ih fun i hi=>h (i+1) (by simpa using hi)
theorem Xxd {d:List Bool} (h:allB d=true) {i:Nat} (hi:i<d.length):Ym d i=true:=by
 induction d generalizing i with
 | nil=>simp at hi
 | cons b l ih =>
   simp only [allB] at h
   split at h
   ·cases i with
    | zero=>rfl
    | succ i=>exact ih h (by simpa using hi)
   ·cases h
theorem Xib {l:Lvl} {st:St} (h:Xht l=some st):∃ d,l=[(d,st)]∧allB d=true:=by
 unfold Xht at h
 split at h
 ·cases h
 ·split at h
  ·split at h
   ·cases h;exact ⟨_,rfl,by assumption⟩
   ·cases h
  ·cases h
theorem Xvs {listed:Array Bool} {i:Nat} (hi:i<listed.size):listed.getD i false=listed.getD i true:=by
 simp [Array.getD_eq_getD_getElem?,hi]
theorem X1h (hT:Z2 P cfg.ty) (hE:C.E=E) (hO:Xgv P E cfg lv) {md:Region.Mode} {ops:Array Oper} (hd:Xam ops.toList=true) {z:List Bool} (hz:∀ i o,ops.toList[i]?=some o→Ym z i=true→lzOp ops.toList i o=true) {slot:Nat}
 {Q:Exit→Act→World→Prop} (hQ:∀ a w,Post C ts c res a w→Q .normal a w) :
 ∀ (m:Nat) (listed:Array Bool) (fuel:List Oper) (d:List Bool) (l:Lvl) (a b:Act) (w:World) (st:St),listed.size=ops.size→(left ops.size listed).length=m→d.length=ops.size→Pn P ops z listed d a b w ops.size →
  (d,st)∈l→evZ cfg lv ops.toList z slot fuel l c=some res→InvE C ts w b st→wpAny P md ops Q m listed a w:=by
 intro m
 induction m with
 | zero =>
   intro listed fuel d l a b w st hn hl hdn N hm h I
   have hl:left ops.size listed=[]:=List.length_eq_zero_iff.1 hl
   have hall:∀ i,i<ops.size→listed.getD i false=true:=by
    intro i hi
    cases hh:listed.getD i true with
    | true=>rw [Xvs (by omega)];exact hh
    | false =>
      have:i∈left ops.size listed:=Xcl.2 ⟨hi,hh⟩
      rw [hl] at this
      cases this
   have hdone:allB d=true:=Xt5 fun i hi=>N.sub i (hall i (by omega))
   have hab:b=a:=by
    have h1:b.tmps=a.tmps:=by
     apply Array.ext N.size
     intro i h1 h2
     have:=N.same i fun j q hq _ hlj=>by
      have hj:j<ops.size:=by
       have:=(List.getElem?_eq_some_iff.1 hq).1
       simpa using this
      rw [hall j hj] at hlj
      cases hlj
     simpa [Array.getD_eq_getD_getElem?,h1,h2] using this
    have h2:=N.defs
    cases a;cases b
    simp only at h1 h2
    subst h1;subst h2
    rfl
   subst hab
   have hc:c st=some res:=by
    rw [Xq9] at h
    unfold evZT at h
    split at h
    ·rename_i st' hone
     obtain ⟨d',rfl,_⟩:=Xib hone
     simp only [List.mem_cons,List.not_mem_nil,or_false,Prod.mk.injEq] at hm
     rw [hm.2]
     exact h
    ·split at h
     ·cases h
     ·obtain ⟨_,_,_,hall2⟩:=Xmr h
      have:=(hall2 d st hm).1
      rw [hdone] at this
      cases this
   refine ⟨?_,hQ b w ⟨st,hc,I⟩⟩
   cases hr:Region.ready md ops listed with
   | nil=>rfl
   | cons i L =>
     have:i∈Region.ready md ops listed:=by rw [hr];simp
     obtain ⟨h1,h2,_⟩:=Xcm.1 this
     have:i∈left ops.size listed:=Xcl.2 ⟨h1,h2⟩
     rw [hl] at this
     cases this
 | succ m ih =>
   intro listed fuel d l a b w st hn hl hdn N hm h I
   refine ⟨fun hr=>by rw [Xmp hn hd hr] at hl;simp at hl,fun i hi=>?_⟩
   obtain ⟨h1,h2,o,ho,h3⟩:=Xcm.1 hi
   have hol:ops.toList[i]?=some o:=by rw [Array.getElem?_toList];exact ho
   have hrd:∀ e∈o.after.toList,Vh e=true→listed.getD e.on false=true:=fun e he hb=>h3 e he (Xsc md hb)
   have hlen:(left ops.size (listed.setIfInBounds i true)).length=m:=by
    rw [Xsa hn h1]
    have him:i∈left ops.size listed:=Xcl.2 ⟨h1,h2⟩
    have hnd:(left ops.size listed).Nodup:=(Xks _ _).imp (fun h=>by omega)
    have:(left ops.size listed).filter (fun j=>decide (j≠i))=(left ops.size listed).erase i:=by
     rw [hnd.erase_eq_filter]
     apply List.filter_congr
     intro j _
     by_cases e:j=i <;> simp [e]
    rw [this,List.length_erase_of_mem him,hl]
    rfl
   have hls:∀ j,(listed.setIfInBounds i true).getD j false=if j=i then true else listed.getD j false:=fun j=>Xcn (by omega)
   have hli:listed.getD i false=false:=by rw [Xvs (by omega)];exact h2
   cases hdi:Ym d i with
   | true =>
     obtain ⟨_,t,x,L,F⟩:=N.pend i o hol hdi hli
     obtain ⟨v,hv,hrun⟩:=F h1
     have hax:a.eval (.tmp x)=b.eval (.tmp x):=by
      refine (N.same x fun j q hq hj hlj e=>?_).symm
      obtain ⟨_,t',x',L',_⟩:=N.pend j q hq hj hlj
      have hne:j≠i:=fun e2=>by
       subst e2
       rw [hol] at hq;cases hq
       rw [L.dst] at e
       cases e
       exact L.ne rfl
      obtain ⟨e',he',h4,h5⟩:=Xdq ((L.oth j q hq hne).2.1 e)
      have:=hrd e' he' h5
      rw [h4,hlj] at this
      cases this
     unfold wpOp
     simp only [ho]
     have hw:Region.wanted o (yielded ops a.tmps)=true:=by unfold Region.wanted;rw [L.gd]
     rw [if_pos hw]
     refine .inl ?_
     unfold Oper.wp
     rw [hrun a.eval hax,Oper.upon_value,L.dst]
     refine ih (listed.setIfInBounds i true) fuel d l (a.put (some t) v) b w st (by simpa using hn) hlen hdn ⟨by rw [Q3];exact N.size,by rw [Xdr];exact N.defs,?_,N.dcl,?_,?_⟩ hm h I
     ·intro j hj
      rw [hls] at hj
      by_cases e:j=i
      ·rw [e];exact hdi
      ·rw [if_neg e] at hj;exact N.sub j hj
     ·intro j q hq hj hlj
      rw [hls] at hlj
      by_cases e:j=i
      ·rw [if_pos e] at hlj;cases hlj
      ·rw [if_neg e] at hlj;exact N.pend j q hq hj hlj
     ·intro s hs
      rw [V4]
      by_cases e:s=t
      ·subst e
       by_cases hlt:s<a.tmps.size
       ·rw [if_pos ⟨rfl,hlt⟩];exact hv (by rw [N.size];exact hlt)
       ·rw [if_neg (fun h=>hlt h.2)]
        have h4:¬s<b.tmps.size:=by rw [N.size];exact hlt
        simp [Array.getD_eq_getD_getElem?,hlt,h4]
      ·rw [if_neg (fun h=>e h.1)]
       refine N.same s fun j q hq hj hlj=>?_
       by_cases e2:j=i
       ·subst e2
        rw [hol] at hq;cases hq
        rw [L.dst]
        exact fun e3=>e (by cases e3;rfl)
       ·exact hs j q hq hj (by rw [hls,if_neg e2];exact hlj)
   | false =>
     have hre:Xan d o.after.toList=true:=Xo3 fun e he hb=>N.sub _ (hrd e he hb)
     have hpd:∀ e∈o.after.toList,Vh e=true→Ym d e.on=true:=fun e he hb=>N.sub _ (hrd e he hb)
     have key:∃ l' fuel' r,evZ cfg lv ops.toList z slot fuel' l' c=some res∧Xoc cfg lv ops.toList z slot d i o st=some r∧(Xdd (bset d i) (Xbq ops.toList z ops.toList (bset d i)),decI r)∈l':=by
      rw [Xq9] at h
      unfold evZT at h
      split at h
      ·rename_i st' hone
       obtain ⟨d',rfl,hall⟩:=Xib hone
       simp only [List.mem_cons,List.not_mem_nil,or_false,Prod.mk.injEq] at hm
       rw [hm.1,Xxd hall (by rw [←hm.1];omega)] at hdi
       cases hdi
      ·split at h
       ·cases h
       ·obtain ⟨l',h,_,hall2⟩:=Xmr h
        obtain ⟨r,hx,hmm⟩:=(hall2 d st hm).2 i o hol hdi hre
        exact ⟨l',_,r,h,hx,hmm⟩
     obtain ⟨l',fuel',r,h,hx,hmm⟩:=key
     have hnext:∀ (dfs:List Deferred) (v:Value) (w':World),Post C ts (fun st=>Xg5 st fun st=>chkZ cfg lv slot (Xe6 z d o 0 ops.toList) st (runZ cfg lv slot (Xbq ops.toList z ops.toList (bset d i)) st fun st=>some (encI st))) r ({b with defers:=dfs}.put o.dst v) w' →
      wpAny P md ops Q m (listed.setIfInBounds i true) ({a with defers:=dfs}.put o.dst v) w':=by
      intro dfs v w' ⟨st1,h4,I4⟩
      simp only [Xjv] at h4
      have N0:=N.step w' hol hdi (by omega) hpd dfs v
      obtain ⟨b1,h4,I4,N1⟩:=Xel hT hE hO hd hz (d:=d) (oi:=o) (fun j hj hlj=>by
       rw [hls] at hlj
       by_cases e:j=i
       ·rw [if_pos e] at hlj;cases hlj
       ·rw [Xfo (Xjw hdi),if_neg e] at hj;exact hj) (fun j hj=>by
       obtain ⟨e',he',h7,h8⟩:=Xdq hj
       rw [hls]
       split
       ·rfl
       ·rw [←h7];exact hrd e' he' h8) ops.toList 0 (fun m=>by rw [Nat.zero_add]) h4 N0 I4
      rw [Nat.zero_add,Array.length_toList] at N1
      obtain ⟨b',st',h5,I5,N5,hln⟩:=Xhf hT hE hO hz h4 N1 I4
      have e:decI r=st':=by cases h5;exact Xu8 st'
      rw [e] at hmm
      exact ih (listed.setIfInBounds i true) fuel' _ l' _ b' w' st' (by simpa using hn) hlen (by rw [hln,Xsd];exact hdn) N5 hmm h I5
     have hread:∀ t,Xcz ops.toList o t=true→b.tmps.getD t undef=a.tmps.getD t undef:=fun t ht=>N.lookSame hol hrd hdi ht
     have hwant:Region.wanted o (yielded ops b.tmps)=Region.wanted o (yielded ops a.tmps):=by
      unfold Region.wanted
      cases hg:o.guard with
      | none=>rfl
      | some gw =>
        obtain ⟨gj,wt⟩:=gw
        have:yielded ops b.tmps gj=yielded ops a.tmps gj:=by
         unfold yielded
         cases hgo:ops[gj]? with
         | none=>rfl
         | some p =>
           cases hpd2:p.dst with
           | none=>simp [hpd2]
           | some t =>
             have hl:Xcz ops.toList o t=true:=by
              unfold Xcz
              rw [hg]
              have:ops.toList[gj]?=some p:=by rw [Array.getElem?_toList];exact hgo
              simp [this,hpd2]
             have h4:=hread t hl
             have h5:b.tmps[t]?=a.tmps[t]?:=by
              by_cases hlt:t<a.tmps.size
              ·have hlt2:t<b.tmps.size:=by rw [N.size];exact hlt
               simp only [Array.getD_eq_getD_getElem?,Array.getElem?_eq_getElem hlt,Array.getElem?_eq_getElem hlt2,Option.getD_some] at h4
               rw [Array.getElem?_eq_getElem hlt,Array.getElem?_eq_getElem hlt2,h4]
              ·rw [Array.getElem?_eq_none (Nat.le_of_not_lt hlt),Array.getElem?_eq_none (by rw [N.size];exact Nat.le_of_not_lt hlt)]
             simp [hpd2,h5]
        simp only [this]
     obtain ⟨wr,g,I0⟩:=I
     unfold Xoc at hx
     unfold wpOp
     simp only [ho]
     rw [←hwant]
     rcases Xfe I0 hx with ⟨hw,hx⟩ | ⟨hw,hx⟩
     ·rw [if_pos hw]
      refine .inl (X1g (hO C hE ts o _ st _ r b w (fun _ _ _=>False) hx ⟨wr,g,I0⟩) ?_ N.defs hnext)
      refine execOp_congr o (fun cs bb hsel=>?_) fun y hy=>?_
      ·simp [evOp,hsel] at hx
      ·cases y with
       | tmp t =>
         refine (hread t ?_).symm
         unfold Xcz
         rw [Bool.or_eq_true]
         exact .inl (List.any_eq_true.2 ⟨.tmp t,Array.mem_toList_iff.2 hy,by simp⟩)
       | const v=>rfl
       | global gg=>rfl
       | func f=>rfl
     ·rw [if_neg (by rw [hw];simp)]
      have:=hnext b.defers undef w (I0.skip hx)
      rw [N.defs] at this
      exact this
theorem Xvt {all:List Oper}:∀ {l:List Oper} {i:Nat} {k:List Bool→R},lzK all i l k=some res→∃ z,k z=some res∧∀ m o,l[m]?=some o→Ym z m=true→lzOp all (i+m) o=true
 | [],i,k,h=>⟨[],h,fun m o ho=>by simp at ho⟩
 | p::l,i,k,h=>by
   rw [lzK] at h
   have go:∀ b:Bool,(b=true→lzOp all i p=true)→lzK all (i+1) l (fun z=>k (b::z))=some res→∃ z,k z=some res∧∀ m o,(p::l)[m]?=some o→Ym z m=true→lzOp all (i+m) o=true:=by
    intro b hb h
    obtain ⟨z,h1,h2⟩:=Xvt h
    refine ⟨b::z,h1,fun m o ho hm=>?_⟩
    cases m with
    | zero=>simp at ho;subst ho;exact hb hm
    | succ m =>
      rw [show i+(m+1)=i+1+m by omega]
      exact h2 m o (by simpa using ho) hm
   split at h
   ·rename_i hp;exact go true (fun _=>hp) h
   ·exact go false (fun h=>by cases h) h
theorem Xt6 (l:List Oper):(Xg6 l).length=l.length:=by induction l with
 | nil=>rfl
 | cons o l ih=>simp [Xg6,ih]
theorem Xxe {l:List Oper} {i:Nat} (h:i<l.length):Ym (Xg6 l) i=false:=by
 induction l generalizing i with
 | nil=>simp at h
 | cons o l ih=>cases i with
   | zero=>rfl
   | succ i=>exact ih (by simpa using h)
theorem Xqj {md:Bool} {ops:Array Oper} {Q:Exit→Act→World→Prop} (h:∀ m,wpAny P m ops Q ops.size (Array.replicate ops.size false) a w) (t:Nat):wpOps P ops Q (Region.schedule md ops t) a w:=by
 unfold Region.schedule
 split
 ·exact wpAny_sound _ _ _ _ _ (h _)
 ·exact wpAny_sound _ _ _ _ _ (h _)
theorem Xmu (n:Nat):left n (Array.replicate n false)=List.range n:=by
 unfold left
 apply List.filter_eq_self.2
 intro i hi
 have hi:=List.mem_range.1 hi
 simp [Array.getD_eq_getD_getElem?,hi]
theorem X1i (all:List Oper) (k:Heap→R):padN all k=k (List.replicate all.length none):=by
 induction all generalizing k with
 | nil=>rfl
 | cons o l ih=>rw [padN,ih];rfl
theorem X1j (all:List Oper) (h:Heap) (k:Heap→R):padH all h k=k (h++List.replicate all.length none):=by
 induction h generalizing k with
 | nil=>exact X1i all k
 | cons x l ih=>rw [padH,ih];rfl
theorem Xvu (h:Heap) (n r:Nat):(h++List.replicate n (none:Option Root))[r]?.join=h[r]?.join:=by
 rcases Nat.lt_or_ge r h.length with hlt | hge
 ·rw [List.getElem?_append_left hlt]
 ·rw [List.getElem?_append_right hge,List.getElem?_eq_none hge]
  by_cases hr:r - h.length<n
  ·rw [List.getElem?_replicate,if_pos hr];rfl
  ·rw [List.getElem?_replicate,if_neg hr]
theorem Xxf {b:Bool} {all:List Oper} {st:St} {k:St→R} {a:Act} {w:World} (h:X3g b all st k=some res) (I:InvE C ts w a st):∃ st',k st'=some res∧InvE C ts w a st':=by
 cases b with
 | false=>exact ⟨_,h,I⟩
 | true =>
   obtain ⟨e,s,hp⟩:=st
   change padH all hp (fun h=>k ⟨e,s,h⟩)=some res at h
   rw [X1j] at h
   refine ⟨_,h,?_⟩
   obtain ⟨wr,g,I⟩:=I
   have keeps:Vf (fun _ _=>True) w hp g w (hp++List.replicate all.length none) g:=fun r p v sz rows _ hq=>⟨rows,by
    unfold Yq at hq ⊢
    rw [Xvu]
    exact hq,rfl⟩
   have hn:hp[hp.length]?.join=none:=by simp
   have R:Rel w wr (hp++List.replicate all.length none) g:=Rel.change (r:=hp.length) (X:=none) I.good.rel (Xcd.all (fun _ _=>trivial) hp) keeps (fun r'=>by
    rw [Xvu]
    by_cases e:r'=hp.length
    ·subst e;rw [if_pos rfl];exact hn
    ·rw [if_neg e]) (Nat.le_refl _) (fun _ _ _ _ _ _=>rfl) (fun _ _=>⟨rfl,rfl,rfl⟩) (fun x hx=>by cases hx) (fun x hx=>by cases hx) (fun x hx=>by cases hx)
   exact ⟨wr,g,Good.keep I.good (Xdn.all (fun _ _=>trivial) _) keeps R,I.fr,I.can,I.dom,I.nodef⟩
theorem Xic (hT:Z2 P cfg.ty) (hO:Xgv P E cfg lv) {f:FuncId}:∀ (code:Code),V3 cfg f code=true→Xbx P E (Xpy cfg lv f) code:=by
 intro code
 induction code with
 | region id ops d =>
   intro hc hd
   subst hd
   simp only [V3,Bool.not_true,Bool.false_or,Bool.and_eq_true] at hc
   intro C hE ts st c res a w Q h I hQ t
   have I':InvE C ts {w with drawn:=w.drawn+1} a st:=by
    obtain ⟨wr,g,I⟩:=I
    exact ⟨wr,g,Good.heap (w:=w) (w':={w with drawn:=w.drawn+1}) rfl I.good,⟨I.fr.os,I.fr.tape,I.fr.output,I.fr.size,I.fr.block,I.fr.cells⟩,I.can,I.dom,I.nodef⟩
   unfold Xpy at h
   refine Xqj (fun md=>?_) t
   split at h
   ·rename_i hcalm
    rw [Xlw] at h
    have hc2:Xpu cfg ops.toList=true:=by
     have:=hc.2
     rw [hcalm] at this
     simpa using this
    have e:=Xmo (cfg:=cfg) (lv:=lv) (c:=c) (all:=ops.toList) ops.size 0 (by simp) st
    rw [List.drop_zero] at e
    rw [e] at h
    refine Xxc hE hO hc.1 hc2 hQ ops.size _ a _ st (by simp) (by rw [Xmu];simp) (fun i o ho hl=>?_) (by rw [Xmu];simpa using h) I'
    have hi:i<ops.size:=(Array.getElem?_eq_some_iff.1 ho).1
    simp [Array.getD_eq_getD_getElem?,hi] at hl
   ·have h:=Xhv h
    obtain ⟨st,h,I'⟩:=Xxf h I'
    obtain ⟨z,h,hz⟩:=Xvt h
    rw [Xt2] at h
    have hl:∀ i,i<ops.size→(Array.replicate ops.size false).getD i false=false:=fun i hi=>by simp [Array.getD_eq_getD_getElem?,hi]
    have hno:∀ i,Ym (Xg6 ops.toList) i=true→¬i<ops.size:=fun i hb hi=>by
     rw [Xxe (by simpa using hi)] at hb;cases hb
    have N0:Pn P ops z (Array.replicate ops.size false) (Xg6 ops.toList) a a {w with drawn:=w.drawn+1} ops.size:=by
     refine ⟨rfl,rfl,fun i hi=>?_,fun i o ho hb=>?_,fun i o ho hb=>?_,fun _ _=>rfl⟩
     ·exfalso
      by_cases h2:i<ops.size
      ·rw [hl i h2] at hi;cases hi
      ·simp [Array.getD_eq_getD_getElem?,h2] at hi
     ·exact absurd (by have:=(List.getElem?_eq_some_iff.1 ho).1;simpa using this) (hno i hb)
     ·exact absurd (by have:=(List.getElem?_eq_some_iff.1 ho).1;simpa using this) (hno i hb)
    have hz':∀ i o,ops.toList[i]?=some o→Ym z i=true→lzOp ops.toList i o=true:=fun i o ho hb=>by
     have:=hz i o ho hb
     rwa [Nat.zero_add] at this
    obtain ⟨b',st',h2,I2,N2,hln⟩:=Xhf hT hE hO hz' h N0 I'
    rw [Xjv,Xo4] at h2
    exact X1h hT hE hO hc.1 hz' hQ ops.size _ _ _ _ a b' _ st' (by simp) (by rw [Xmu];simp) (by rw [hln,Xt6];simp) N2 (List.mem_cons_self ..) h2 I2
 | seq x y ihx ihy =>
   intro hc
   simp only [V3,Bool.and_eq_true] at hc
   exact ⟨ihx hc.1,ihy hc.2⟩
 | cond b x y ihx ihy =>
   intro hc
   simp only [V3,Bool.and_eq_true] at hc
   exact ⟨ihx hc.1,ihy hc.2⟩
 | block id b ih=>intro hc;exact ih hc
 | loop b ih=>intro hc;exact ih hc
 | _=>intro _;trivial
end
end Go.Abs
namespace Go.Abs
section
variable {P:Program} {E:Env} {cfg:Cfg} {lv:Lev} {C:Ctx} {ts:List (List Value)} {w:World} {a:Act} {st:St} {wr:Wrs} {g:Gh} {c:St→R} {res:Res}
theorem Xt7 (hT:Z2 P cfg.ty) (hQ:∀ t∈cfg.eqs,EqOK P t.1 t.2) (hL:LevOK P E cfg lv):Xgv P E cfg lv:=by
 intro C hE ts o slot st c res a w Q h ⟨wr,g,I⟩
 cases ho:o.op with
 | move x=>exact Xvl (.inl ho) h I
 | assign x=>exact Xvl (.inr ho) h I
 | pick x y z=>exact X06 ho h I
 | alloc t=>exact Xyu hT ho h I
 | box t x=>exact X3t hT ho h I
 | build t ps=>exact Xy2 hT ho h I
 | buildSlice t n ps=>exact Xnq hT ho h I
 | load t x=>exact X07 hT ho h I
 | store t x y=>exact Xyt hT ho h I
 | nilCheck x=>exact Xrh ho h I
 | binOp op t x y t'=>exact Xyy hT hQ ho h I
 | unOp op t x=>exact X08 ho h I
 | convert s d x=>exact Xts hT ho h I
 | makeFunc fn fs cs=>exact Xri ho h I
 | makeSlice t x y=>exact Xqc hT ho h I
 | slice t x lo hi mx=>exact Xy0 hT ho h I
 | fieldAddr s x f=>exact Xp9 hT ho h I
 | field s x f=>exact Xyz hT ho h I
 | indexAddr t x i=>exact Xqa hT ho h I
 | index t x i=>exact Xy1 hT ho h I
 | extract x i=>exact Xtk ho h I
 | call cl =>
   cases hc:cl.callee with
   | value fo=>exact Xzd hT hL hE ho hc h I
   | invoke r m=>simp only [evOp,ho,hc] at h;obtain ⟨vs,h,_⟩:=Xa8 I.good.env h;cases h
   | builtin b =>
     refine Xtm ho hc h I fun vals vs k hb H=>?_
     cases b with
     | len=>exact X52 hT hb I H
     | append=>exact Xy9 hT hb I H
     | min=>exact X53 hb I H
     | max=>exact X54 hb I H
     | _=>simp [Wn] at hb
 | _=>simp only [evOp,ho] at h;cases h
structure CfgOK (P:Program) (E:Env) (cfg:Cfg):Prop where
 ty:Z2 P cfg.ty
 eqs:∀ t∈cfg.eqs,EqOK P t.1 t.2
 fns : ∀ y ∈ cfg.fn, P.funcs[y.1]? = some y.2 ∧ (y.2.name == "runtime.NumGoroutine") = false ∧ ∀ b, y.2.body = some b → V3 cfg y.1 b = true
 ext:∀ f e,cfg.ext f=some e→∀ (args:List AV) (res:Res),e args=some res→FnOK P f ∧
  ∀ (w:World) (vals:List Value),E.J w→E.N≤w.heap.size→ARs w Any vals args→Calls P f vals.toArray w fun en w'=>∃ v,en=.returned v∧Fr w Xfh w'∧PRes w w' v res.val
theorem Xlh {l:List (FuncId×Func)} {f:FuncId} {k:Func→R} (h:fnK l f k=some res):∃ fn,(f,fn)∈l∧k fn=some res:=by
 induction l with
 | nil=>simp [fnK] at h
 | cons y l ih =>
   obtain ⟨f',x⟩:=y
   simp only [fnK] at h
   split at h
   ·rename_i e;subst e;exact ⟨x,by simp,h⟩
   ·obtain ⟨fn,h1,h2⟩:=ih h;exact ⟨fn,by simp [h1],h2⟩
theorem VRs.undefs {h:Heap}:∀ (n:Nat),VRs w h g (List.replicate n Go.undef) (List.replicate n .undef)
 | 0=>.nil
 | n+1=>by rw [List.replicate_succ,List.replicate_succ];exact .cons (.undef _) (VRs.undefs n)
theorem Xvv (H:CfgOK P E cfg) {f:FuncId} {fn:Func} (hf:(f,fn)∈cfg.fn) {lv:Lev} {args:List AV} {stk:List (List AV)} {h:Heap} {k:AV→St→R} (hh:body cfg lv f fn args stk h k=some res):FnOK P f:=by
 obtain ⟨h1,h2,_⟩:=H.fns _ hf
 refine ⟨fn,h1,h2,?_⟩
 unfold body at hh
 cases hb:fn.body with
 | none=>rw [hb] at hh;cases hh
 | some b=>rfl
theorem Xzn {s:Nat} {v:AV} {row:List AV} {k:AV→List AV→R} (hk:op0 s v row k=some res):∃ x y,k x y=some res:=by
 cases v <;> simp only [op0] at hk <;> first
  | exact ⟨_,_,hk⟩
  | (cases hk;done)
  | exact ⟨_,_,Xh4 hk⟩
theorem Xvw {s:Nat}:∀ {l row:List AV} {k:List AV→List AV→R},opL0 s l row k=some res→∃ x y,k x y=some res
 | [],row,k,hk=>⟨_,_,hk⟩
 | v::l,row,k,hk=>by
   obtain ⟨x,y,hk⟩:=Xzn hk
   obtain ⟨x,y,hk⟩:=Xvw hk
   exact ⟨_,_,hk⟩
theorem X3v {s:Nat} {v:AV} {row:List AV} {k:AV→List AV→R} (hk:op1 s v row k=some res):∃ x y,k x y=some res:=by
 by_cases hag:∃ cs,v=.agg cs
 ·obtain ⟨cs,rfl⟩:=hag
  simp only [op1] at hk
  obtain ⟨x,y,hk⟩:=Xvw hk
  exact ⟨_,_,hk⟩
 ·have h:op0 s v row k=some res:=by
   cases v <;> first | exact hk | exact absurd ⟨_,rfl⟩ hag
  exact Xzn h
theorem Xge {s:Nat}:∀ {l row:List AV} {k:List AV→List AV→R},opL1 s l row k=some res→∃ x y,k x y=some res
 | [],row,k,hk=>⟨_,_,hk⟩
 | v::l,row,k,hk=>by
   obtain ⟨x,y,hk⟩:=X3v hk
   obtain ⟨x,y,hk⟩:=Xge hk
   exact ⟨_,_,hk⟩
theorem T0s.get {own:Bool} {K:CS}:∀ {vs:List Value} {l:List AV} {Ss:List BS} {j:Nat} {a:AV},T0s w own K vs l Ss→l[j]?=some a→∃ v S,vs[j]?=some v∧Ss[j]?=some S∧TR w own K S v a
 | _,_,_,0,_,.cons h1 _ _,ha=>by simp at ha;subst ha;exact ⟨_,_,rfl,rfl,h1⟩
 | _,_,_,j+1,_,.cons _ _ h2,ha=>by
   obtain ⟨v,S,e1,e2,e3⟩:=T0s.get (j:=j) h2 (by simpa using ha)
   exact ⟨v,S,by simpa using e1,by simpa using e2,e3⟩
 | _,_,_,0,_,.nil,ha=>by simp at ha
 | _,_,_,j+1,_,.nil,ha=>by simp at ha
theorem Xg9.eq {Ss:List BS} (h:Xg9 Ss) {j j' k:Nat} (h1:fOf Ss j k) (h2:fOf Ss j' k):j=j':=by
 obtain ⟨S,hj,hk⟩:=h1
 obtain ⟨S',hj',hk'⟩:=h2
 obtain ⟨hl,e⟩:=List.getElem?_eq_some_iff.1 hj
 obtain ⟨hl',e'⟩:=List.getElem?_eq_some_iff.1 hj'
 rcases Nat.lt_trichotomy j j' with hlt | heq | hgt
 ·have:=(List.pairwise_iff_getElem.1 h) j j' hl hl' hlt k (by rw [e];exact hk)
  rw [e'] at this
  exact absurd hk' this
 ·exact heq
 ·have:=(List.pairwise_iff_getElem.1 h) j' j hl' hl hgt k (by rw [e'];exact hk')
  rw [e] at this
  exact absurd hk this
theorem Xo6 {cs:List AV} {k:AV→List AV→R} {k0:R} (h:Xvg cs k k0=some res):(∃ b rest,cs=.tup [b]::rest∧k b rest=some res)∨k0=some res:=by
 unfold Xvg at h
 split at h
 ·split at h
  ·exact .inl ⟨_,_,rfl,h⟩
  ·cases h
 ·exact .inr h
theorem Xvx:∀ {p q:Path},eqPa p q=true→p=q
 | [],[],_=>rfl
 | [],(_,_)::_,h=>by simp [eqPa] at h
 | (_,_)::_,[],h=>by simp [eqPa] at h
 | (i,j)::p,(i',j')::q,h=>by
   simp only [eqPa,Bool.and_eq_true,beq_iff_eq] at h
   rw [h.1.1,h.1.2,Xvx h.2]
theorem VR.ref_fun {h:Heap} {r:Nat} {p:Path} {u v:Value} (hu:VR w h g u (.ref r p)) (hv:VR w h g v (.ref r p)):u=v:=by
 cases hu with
 | ref h1=>cases hv with
   | ref h2=>rw [h1] at h2;cases h2;rfl
theorem Xvy (H:CfgOK P E cfg) {f:FuncId} {fn:Func} {m:Nat} (hf:(f,fn)∈cfg.fn) {args:List AV} (h0:Xl2 cfg lv f fn m args=some res):FnOK P f:=by
 unfold Xl2 at h0
 obtain ⟨va,p,vb,e1,e2,h⟩:=Xap h0
 split at h
 case h_2=>cases h
 rcases Xo6 h with ⟨bl,rest,_,h⟩ | h
 ·obtain ⟨_,_,h⟩:=Xge h
  obtain ⟨_,_,h⟩:=Xge h
  obtain ⟨_,_,h⟩:=Xge h
  split at h
  ·have h:=Xa4 h
   exact Xvv H hf h
  ·cases h
 ·obtain ⟨_,_,h⟩:=Xge h
  obtain ⟨_,_,h⟩:=Xge h
  have h:=Xa4 h
  exact Xvv H hf h
theorem Xsh (H:CfgOK P E cfg) (hL:LevOK P E cfg lv) {f:FuncId} {fn:Func} {m:Nat} (hf:(f,fn)∈cfg.fn) {args:List AV} (h0:Xl2 cfg lv f fn m args=some res):FnOK P f ∧
 ∀ (va cs vb:List AV),args=va++.pv cs::vb→va.length=m→∀ (w:World) (b o:Nat) (W:CS) (arr:Array Value) (e:TypeId) (fz:Nat×Nat) (us vala valb:List Value) (Ss Sa Sb:List BS),
  E.J w→E.N≤w.heap.size→(∀ b q,W b q→E.N≤b) →
  w.heap[b]?=some (.cells arr e fz)→o+cs.length≤arr.size→(∀ q u,us[q]?=some u→arr[o+q]?=some u)→(∀ q,o≤q→q<o+cs.length→Kw w W b q) →
  T0s w true (Kw w W) us cs Ss→(∀ S∈Ss,∀ k,S k→k<w.heap.size∧k≠b)→T1s w false Any vala va Sa→T1s w false Any valb vb Sb →
  (∀ S,S∈Sa∨S∈Sb→∀ k,S k→k<w.heap.size∧k≠b∧∀ S'∈Ss,¬S' k) →
  Calls P f (vala++.pointer (some ⟨b,o,none⟩)::valb).toArray w fun en w'=>∃ v us' Ss' arr',en=.returned v∧Xrw v res.val∧Fr w (IoW b o cs.length Ss W) w'∧w'.heap[b]?=some (.cells arr' e fz) ∧
   (∀ q u,us'[q]?=some u→arr'[o+q]?=some u)∧T0s w' true (fun b' q=>(w.heap.size≤b'∨W b' q)∧w'.frozen? ⟨b',q,none⟩=false) us' res.out Ss' ∧
   ∀ S∈Ss',∀ k,S k→k≠b∧k<w'.heap.size∧(k<w.heap.size→∃ S0∈Ss,S0 k):=by
 have hok:=Xvy H hf h0
 unfold Xl2 at h0
 obtain ⟨va,p,vb,e1,e2,h⟩:=Xap h0
 clear h0
 subst e1
 split at h
 case h_2=>cases h
 rename_i cs
 obtain ⟨h1,_,h3⟩:=H.fns _ hf
 have hO:=Xt7 H.ty H.eqs hL
 refine ⟨hok,fun va' cs' vb' ea el w b o W arr e fz us vala valb Ss Sa Sb hJ hN hW hb hsz hcell hK T0 hSs Ta Tb hSab=>?_⟩
 obtain ⟨ea1,ea2⟩:=List.append_inj ea (e2.trans el.symm)
 subst ea1
 simp only [List.cons.injEq,AV.pv.injEq] at ea2
 obtain ⟨ec,ev⟩:=ea2
 subst ec ev
 clear ea
 replace h:=(Xo6 h).resolve_left (fun ⟨bl,rest,e,_⟩=>by
  subst e
  cases T0 with
  | cons h1 _ _=>cases h1)
 obtain ⟨avs1,rX1,gX1,SX1,h,O1,n1⟩:=Qi h Ta
 obtain ⟨avs2,rX2,gX2,SX2,h,O2,n2⟩:=Qi h Tb
 have h:=Xa4 h
 simp only [List.nil_append] at h n1
 have hl1:=O1.trees.len
 have hl2:=O2.trees.len
 have hTR:=O1.trees.append O2.trees
 have hSX:∀ S∈SX1++SX2,S∈Sa∨S∈Sb:=fun S hS=>(List.mem_append.1 hS).imp (fun h=>O1.sub.subset h) (fun h=>O2.sub.subset h)
 let g:Gh:=⟨fun r=>if r=1 then .slice (some ⟨b,o,none⟩) 1 1 else Go.undef,fun _=>gX1++gX2,fun r k=>if r=1 then (k=b∨∃ S∈Ss,S k) else ∃ S∈SX1++SX2,S k⟩
 let hp:Heap:=[some ⟨true,true,true,0,[rX1++rX2]⟩,some ⟨false,false,true,cs.length,[cs]⟩]
 let wr:Wrs:=⟨IoW b o cs.length Ss W,Any⟩
 have hget:∀ r x,hp[r]?.join=some x→(r=0∧x=⟨true,true,true,0,[rX1++rX2]⟩)∨(r=1∧x=⟨false,false,true,cs.length,[cs]⟩):=by
  intro r x hx
  match r with
  | 0=>simp [hp] at hx;exact .inl ⟨rfl,hx.symm⟩
  | 1=>simp [hp] at hx;exact .inr ⟨rfl,hx.symm⟩
  | r+2=>simp [hp] at hx
 have hrel:Rel w wr hp g:=by
  refine ⟨fun r x hx=>?_,fun r x r' x' k hx hx' hne hro hF hF'=>?_,fun r x k hx hF=>?_⟩
  ·rcases hget r x hx with ⟨rfl,rfl⟩ | ⟨rfl,rfl⟩
   ·simp only [Zu]
    refine ⟨rX1++rX2,fOf (SX1++SX2),rfl,by simp [g,hl1.1,hl2.1],fun j k ⟨S,hj,hk⟩=>?_,(fun h=>nomatch h),fun j a v ha hv=>?_⟩
    ·simp only [g]
     exact ⟨S,List.mem_of_getElem? hj,hk⟩
    ·obtain ⟨S,k1,k2⟩:=hTR.get ha hv
     refine k2.mono (fun k hk=>⟨S,k1,hk⟩) (fun b' q hb' _=>⟨?_,trivial⟩)
     obtain ⟨_,z1,z2⟩:=hSab S (hSX S (List.mem_of_getElem? k1)) b' hb'
     rintro (⟨z3,_⟩ | ⟨_,S',z3,z4⟩)
     ·exact z1 z3
     ·exact z2 S' z3 z4
   ·simp only [Zu]
    refine ⟨b,o,arr,e,fz,fun i j k=>i=0∧fOf Ss j k,by simp [g],hb,by simpa using hsz,fun row hr=>by simp at hr;rw [hr],fun q q1 q2=>?_,by simp [g],fun i j k ⟨_,S,hj,hk⟩=>?_,fun _=>⟨fun i j ⟨_,S,hj,hk⟩=>?_,fun i j i' j' k hk hk'=>?_⟩,fun i j row a hr ha=>?_⟩
    ·simp only [List.length_singleton,Nat.one_mul] at q2
     exact ⟨.inl ⟨rfl,q1,q2⟩,(hK q q1 q2).2⟩
    ·simp only [g,if_true]
     exact .inr ⟨S,List.mem_of_getElem? hj,hk⟩
    ·exact (hSs S (List.mem_of_getElem? hj) b hk).2 rfl
    ·exact ⟨hk.1.trans hk'.1.symm,T0.aparts.eq hk.2 hk'.2⟩
    ·cases i with
     | succ i=>simp at hr
     | zero =>
       simp at hr
       subst hr
       obtain ⟨v,S,k1,k2,k3⟩:=T0.get ha
       unfold Ut
       rw [T0.noX a (List.mem_of_getElem? ha)]
       have e3:arr.getD (o+0*cs.length+j) default=v:=by
        rw [Nat.zero_mul,Nat.add_zero]
        exact Xa5 (hcell j v k1)
       simp only [e3]
       exact k3.mono (fun k hk=>⟨by trivial,S,k2,hk⟩) (fun b' q hb' hk=>⟨.inr ⟨hk.1,S,List.mem_of_getElem? k2,hb'⟩,hk.2⟩)
  ·rcases hget r x hx with ⟨rfl,rfl⟩ | ⟨rfl,rfl⟩
   ·cases hro
   ·rcases hget r' x' hx' with ⟨rfl,rfl⟩ | ⟨rfl,rfl⟩
    ·simp only [g,if_true] at hF
     simp only [g] at hF'
     obtain ⟨S,hS,hk⟩:=hF'
     obtain ⟨_,z1,z2⟩:=hSab S (hSX S hS) k hk
     rcases hF with rfl | ⟨S',hS',hk'⟩
     ·exact z1 rfl
     ·exact z2 S' hS' hk'
    ·exact hne rfl
  ·rcases hget r x hx with ⟨rfl,rfl⟩ | ⟨rfl,rfl⟩
   ·simp only [g] at hF
    obtain ⟨S,hS,hk⟩:=hF
    exact (hSab S (hSX S hS) k hk).1
   ·simp only [g,if_true] at hF
    rcases hF with rfl | ⟨S',hS',hk'⟩
    ·exact Xfg hb
    ·exact (hSs S' hS' k hk').1
 have hrow:rX1++rX2≠[]→(∃ ro box sz,hp[0]?.join=some ⟨ro,true,box,sz,[rX1++rX2]⟩)∧g.G 0=gX1++gX2:=fun _=>⟨⟨true,true,0,rfl⟩,rfl⟩
 have hp1:VR w hp g (.pointer (some ⟨b,o,none⟩)) (.ptr 1 [] 0 0):=by
  have:=VR.ptr (w:=w) (h:=hp) (g:=g) (r:=1) (p:=[]) (i:=0) (j:=0) (sz:=cs.length) (rows:=[cs]) (b:=b) (o:=o) (n:=1) (c:=1) (by
   rw [Y2 (x:=⟨false,false,true,cs.length,[cs]⟩) rfl]
   simp only [walk,g,if_true])
  simpa using this
 have hV:VRs w hp g (vala++.pointer (some ⟨b,o,none⟩)::valb) (avs1++.ptr 1 [] 0 0::avs2):=by
  refine VRs.append ?_ (.cons hp1 ?_)
  ·have:=(n1 [] rfl).more (rX:=rX2) (gX:=gX2)
   simp only [List.nil_append] at this
   exact Nms.vrs (List.prefix_refl _) (List.prefix_refl _) hrow this
  ·exact Nms.vrs (List.prefix_refl _) (List.prefix_refl _) hrow (n2 gX1 (by simp [hl1.1]))
 let C:Ctx:=⟨E,w,IoW b o cs.length Ss W,Any,fun _ _ _=>trivial,hJ,hN,fun b' q h=>by
  rcases h with ⟨rfl,h1,h2⟩ | ⟨h1,_⟩
  ·exact hW _ _ (hK q h1 h2).1
  ·exact hW _ _ h1⟩
 have hbd:=Xeh (C:=C) (ts:=[[.pointer (some ⟨b,o,none⟩)]]) (w:=w) (wr:=wr) (g:=g) H.ty rfl hO h1 (fun b hb=>Xic H.ty hO b (h3 b hb)) h hV.length (fun m=>⟨⟨hrel,by
  simp only [Array.toList_append,Array.toList_replicate]
  exact hV.append (VRs.undefs m),.cons (.cons hp1 .nil) .nil⟩,Fr.refl w _,fun _ _ h _=>h,rfl,rfl⟩)
 refine hbd.mono fun en w' ⟨v,av,a',st',wr',g',he,I,hv,hk⟩=>?_
 have hstk:=I.good.stk
 unfold X3h at hk
 split at hk
 case h_2=>cases hk
 rename_i r i j hs
 rw [hs] at hstk
 have hptr:VR w' st'.heap g' (.pointer (some ⟨b,o,none⟩)) (.ptr r [] i j):=by
  cases hstk with
  | cons h1 _=>cases h1 with
    | cons h1 _=>exact h1
 obtain ⟨x,hx,hk⟩:=Ug hk
 have hx:st'.heap[r]?.join=some x:=by rw [hx];rfl
 obtain ⟨ro,virt,box,sz,rows⟩:=x
 simp only at hk
 split at hk
 case h_2=>cases hk
 obtain ⟨b2,o2,us',cs2,arr',e',fz',hbo,hk,hul,Hus,hb2,_,hcell2,_,_,_⟩:=Xzb H.ty I.good.rel hk hptr hx (fun v hv=>by
  split at hv
  ·exact ⟨_,rfl⟩
  ·cases hv)
 simp only [Value.pointer.injEq,Option.some.injEq,Addr.mk.injEq] at hbo
 obtain ⟨rfl,rfl,_⟩:=hbo
 simp only at hk
 obtain ⟨out,Ss0,st2,g2,hk,T2,Tk2⟩:=Xeg hk I.good .refl Hus
 have hstk2:=Tk2.good.stk
 split at hk
 case h_2=>cases hk
 rename_i r2 i2 j2 hs2
 rw [hs2] at hstk2
 have hptr2:VR w' st2.heap g2 (.pointer (some ⟨b,o,none⟩)) (.ptr r2 [] i2 j2):=by
  cases hstk2 with
  | cons h1 _=>cases h1 with
    | cons h1 _=>exact h1
 obtain ⟨x2,hx2,hk⟩:=Ug hk
 have hx2:st2.heap[r2]?.join=some x2:=by rw [hx2];rfl
 obtain ⟨ro2,virt2,box2,sz2,rows2⟩:=x2
 simp only at hk
 split at hk
 case h_2=>cases hk
 split at hk
 case h_2=>cases hk
 rename_i hscal
 simp only [Option.some.injEq] at hk
 subst hk
 have hFb:g2.F r2 b:=by
  have hroot:=Tk2.good.rel.root r2 _ hx2
  simp only [Zu] at hroot
  obtain ⟨b1,o1,_,_,_,_,k1,_,_,_,_,k6,_⟩:=hroot
  generalize hpp:(Value.pointer (some ⟨b,o,none⟩))=pp at hptr2
  cases hptr2 with
  | ptr hw =>
    rw [Y2 hx2] at hw
    simp only [walk,Option.some.injEq,Prod.mk.injEq] at hw
    rw [k1] at hw
    simp only [Value.slice.injEq,Option.some.injEq,Addr.mk.injEq] at hw
    simp only [Value.pointer.injEq,Option.some.injEq,Addr.mk.injEq] at hpp
    rw [hpp.1,←hw.1.1.1]
    exact k6
 obtain ⟨arr2,hb3,_,_⟩:=I.fr.cells b arr e fz hb
 rw [hb2] at hb3
 cases hb3
 have hcan:∀ b' q,wr'.can b' q→b'<w.heap.size→IoW b o cs.length Ss W b' q:=I.can
 refine ⟨v,us',Ss0.map (Xkp w' (Kr w' wr' false)),arr',he,Xot hscal hv,I.fr,hb2,hcell2,T2.trim.mono (fun b' q hk=>⟨?_,hk.2⟩),fun S hS k hk=>?_⟩
 ·obtain ⟨S0,hS0,rfl⟩:=List.mem_map.1 hS
  obtain ⟨k1,k2,q,k3⟩:=hk
  have hne:k≠b:=fun e=>(Tk2.apart S0 hS0 k k1).2 r2 _ hx2 (e▸hFb)
  refine ⟨hne,k2,fun hlt=>?_⟩
  rcases hcan k q k3.1 hlt with ⟨z1,_⟩ | ⟨_,S,z1,z2⟩
  ·exact absurd z1 hne
  ·exact ⟨S,z1,z2⟩
 ·rcases Nat.lt_or_ge b' w.heap.size with hlt | hge
  ·rcases hcan b' q hk.1 hlt with ⟨rfl,z1,z2⟩ | ⟨z1,_⟩
   ·exact .inr (hK q z1 z2).1
   ·exact .inr z1
  ·exact .inl hge
theorem Xqk (H:CfgOK P E cfg) (hL:LevOK P E cfg lv) {f:FuncId} {fn:Func} {m:Nat} (hf:(f,fn)∈cfg.fn) {args:List AV} (h0:Xl2 cfg lv f fn m args=some res):FnOK P f ∧
 ∀ (va cs vb:List AV) (bl:AV),args=va++.pv (.tup [bl]::cs)::vb→va.length=m→∀ (w:World) (b o:Nat) (W:CS) (arr:Array Value) (e:TypeId) (fz:Nat×Nat) (ub:Value) (us vala valb:List Value) (Ss Sa Sb Sl:List BS),
  E.J w→E.N≤w.heap.size→(∀ b q,W b q→E.N≤b) →
  w.heap[b]?=some (.cells arr e fz)→o+(cs.length+1)≤arr.size→arr[o]?=some ub→(∀ q u,us[q]?=some u→arr[o+1+q]?=some u)→(∀ q,o≤q→q<o+(cs.length+1)→Kw w W b q) →
  T0s w true (Kw w W) us cs Ss→(∀ S∈Ss,∀ k,S k→k<w.heap.size∧k≠b)→T1s w false Any vala va Sa→T1s w false Any valb vb Sb→T1s w false Any [ub] [bl] Sl →
  (∀ S,S∈Sa∨S∈Sb∨S∈Sl→∀ k,S k→k<w.heap.size∧k≠b∧∀ S'∈Ss,¬S' k) →
  Calls P f (vala++.pointer (some ⟨b,o,none⟩)::valb).toArray w fun en w'=>∃ v us' Ss' arr',en=.returned v∧Xrw v res.val∧Fr w (IoW b o (cs.length+1) Ss W) w'∧w'.heap[b]?=some (.cells arr' e fz)∧arr'[o]?=some ub ∧
   (∀ q u,us'[q]?=some u→arr'[o+1+q]?=some u)∧T0s w' true (fun b' q=>(w.heap.size≤b'∨W b' q)∧w'.frozen? ⟨b',q,none⟩=false) us' res.out Ss' ∧
   ∀ S∈Ss',∀ k,S k→k≠b∧k<w'.heap.size∧(k<w.heap.size→∃ S0∈Ss,S0 k):=by
 have hok:=Xvy H hf h0
 unfold Xl2 at h0
 obtain ⟨va,p,vb,e1,e2,h⟩:=Xap h0
 clear h0
 subst e1
 split at h
 case h_2=>cases h
 rename_i cs0
 obtain ⟨h1,_,h3⟩:=H.fns _ hf
 have hO:=Xt7 H.ty H.eqs hL
 refine ⟨hok,fun va' cs vb' bl ea el w b o W arr e fz ub us vala valb Ss Sa Sb Sl hJ hN hW hb hsz hub hcell hK T0 hSs Ta Tb Tl hSab=>?_⟩
 obtain ⟨ea1,ea2⟩:=List.append_inj ea (e2.trans el.symm)
 subst ea1
 simp only [List.cons.injEq,AV.pv.injEq] at ea2
 obtain ⟨ec,ev⟩:=ea2
 subst ec ev
 clear ea
 skip
 simp only [Xvg] at h
 obtain ⟨avs1,rX1,gX1,SX1,h,O1,n1⟩:=Qi h Ta
 obtain ⟨avs2,rX2,gX2,SX2,h,O2,n2⟩:=Qi h Tb
 obtain ⟨avs3,rX3,gX3,SX3,h,O3,n3⟩:=Qi h Tl
 split at h
 case h_2=>cases h
 rename_i r0 p0
 have h:=Xa4 h
 simp only [List.nil_append,List.append_assoc] at h n1
 have hl1:=O1.trees.len
 have hl2:=O2.trees.len
 have hl3:=O3.trees.len
 have hTR:=O1.trees.append (O2.trees.append O3.trees)
 have hSX:∀ S∈SX1++(SX2++SX3),S∈Sa∨S∈Sb∨S∈Sl:=fun S hS=>(List.mem_append.1 hS).imp (fun h=>O1.sub.subset h) (fun h=>(List.mem_append.1 h).imp (fun h=>O2.sub.subset h) (fun h=>O3.sub.subset h))
 let g:Gh:=⟨fun r=>if r=1 then .slice (some ⟨b,o,none⟩) 1 1 else Go.undef,fun _=>(gX1++(gX2++gX3)),fun r k=>if r=1 then (k=b∨∃ S∈Ss,S k) else ∃ S∈SX1++(SX2++SX3),S k⟩
 let hp:Heap:=[some ⟨true,true,true,0,[(rX1++(rX2++rX3))]⟩,some ⟨false,false,true,cs.length+1,[.ref r0 p0::cs]⟩]
 let wr:Wrs:=⟨IoW b o (cs.length+1) Ss W,Any⟩
 have hget:∀ r x,hp[r]?.join=some x→(r=0∧x=⟨true,true,true,0,[(rX1++(rX2++rX3))]⟩)∨(r=1∧x=⟨false,false,true,cs.length+1,[.ref r0 p0::cs]⟩):=by
  intro r x hx
  match r with
  | 0=>simp [hp] at hx;exact .inl ⟨rfl,hx.symm⟩
  | 1=>simp [hp] at hx;exact .inr ⟨rfl,hx.symm⟩
  | r+2=>simp [hp] at hx
 have hrow:(rX1++(rX2++rX3))≠[]→(∃ ro box sz,hp[0]?.join=some ⟨ro,true,box,sz,[(rX1++(rX2++rX3))]⟩)∧g.G 0=(gX1++(gX2++gX3)):=fun _=>⟨⟨true,true,0,rfl⟩,rfl⟩
 have hn3:VRs w hp g [ub] [.ref r0 p0]:=by
  have:=n3 (gX1++gX2) (by simp [hl1.1,hl2.1])
  simp only [List.append_assoc] at this
  exact Nms.vrs (List.prefix_refl _) (List.prefix_refl _) hrow this
 have hnb:VR w hp g ub (.ref r0 p0):=by
  cases hn3 with
  | cons h1 _=>exact h1
 have hrel:Rel w wr hp g:=by
  refine ⟨fun r x hx=>?_,fun r x r' x' k hx hx' hne hro hF hF'=>?_,fun r x k hx hF=>?_⟩
  ·rcases hget r x hx with ⟨rfl,rfl⟩ | ⟨rfl,rfl⟩
   ·simp only [Zu]
    refine ⟨(rX1++(rX2++rX3)),fOf (SX1++(SX2++SX3)),rfl,by simp [g,hl1.1,hl2.1,hl3.1],fun j k ⟨S,hj,hk⟩=>?_,(fun h=>nomatch h),fun j a v ha hv=>?_⟩
    ·simp only [g]
     exact ⟨S,List.mem_of_getElem? hj,hk⟩
    ·obtain ⟨S,k1,k2⟩:=hTR.get ha hv
     refine k2.mono (fun k hk=>⟨S,k1,hk⟩) (fun b' q hb' _=>⟨?_,trivial⟩)
     obtain ⟨_,z1,z2⟩:=hSab S (hSX S (List.mem_of_getElem? k1)) b' hb'
     rintro (⟨z3,_⟩ | ⟨_,S',z3,z4⟩)
     ·exact z1 z3
     ·exact z2 S' z3 z4
   ·simp only [Zu]
    refine ⟨b,o,arr,e,fz,fun i j k=>i=0∧∃ j',j=j'+1∧fOf Ss j' k,by simp [g],hb,by simpa using hsz,fun row hr=>by simp at hr;rw [hr];rfl,fun q q1 q2=>?_,by simp [g],fun i j k ⟨_,_,_,S,hj,hk⟩=>?_,fun _=>⟨fun i j ⟨_,_,_,S,hj,hk⟩=>?_,fun i j i' j' k hk hk'=>?_⟩,fun i j row a hr ha=>?_⟩
    ·simp only [List.length_singleton,Nat.one_mul] at q2
     exact ⟨.inl ⟨rfl,q1,q2⟩,(hK q q1 q2).2⟩
    ·simp only [g,if_true]
     exact .inr ⟨S,List.mem_of_getElem? hj,hk⟩
    ·exact (hSs S (List.mem_of_getElem? hj) b hk).2 rfl
    ·obtain ⟨k1,j1,k2,k3⟩:=hk
     obtain ⟨m1,j2,m2,m3⟩:=hk'
     have:=T0.aparts.eq k3 m3
     exact ⟨k1.trans m1.symm,by omega⟩
    ·cases i with
     | succ i=>simp at hr
     | zero =>
       simp at hr
       subst hr
       cases j with
       | zero =>
         simp only [List.getElem?_cons_zero,Option.some.injEq] at ha
         subst ha
         have e3:arr.getD (o+0*(cs.length+1)+0) default=ub:=by
          rw [Nat.zero_mul,Nat.add_zero]
          exact Xa5 hub
         simp only [Ut,isX,e3]
         exact hnb
       | succ j =>
         rw [List.getElem?_cons_succ] at ha
         obtain ⟨v,S,k1,k2,k3⟩:=T0.get ha
         unfold Ut
         rw [T0.noX a (List.mem_of_getElem? ha)]
         have e3:arr.getD (o+0*(cs.length+1)+(j+1)) default=v:=by
          rw [Nat.zero_mul,Nat.add_zero,show o+(j+1)=o+1+j by omega]
          exact Xa5 (hcell j v k1)
         simp only [e3]
         exact k3.mono (fun k hk=>⟨by trivial,j,rfl,S,k2,hk⟩) (fun b' q hb' hk=>⟨.inr ⟨hk.1,S,List.mem_of_getElem? k2,hb'⟩,hk.2⟩)
  ·rcases hget r x hx with ⟨rfl,rfl⟩ | ⟨rfl,rfl⟩
   ·cases hro
   ·rcases hget r' x' hx' with ⟨rfl,rfl⟩ | ⟨rfl,rfl⟩
    ·simp only [g,if_true] at hF
     simp only [g] at hF'
     obtain ⟨S,hS,hk⟩:=hF'
     obtain ⟨_,z1,z2⟩:=hSab S (hSX S hS) k hk
     rcases hF with rfl | ⟨S',hS',hk'⟩
     ·exact z1 rfl
     ·exact z2 S' hS' hk'
    ·exact hne rfl
  ·rcases hget r x hx with ⟨rfl,rfl⟩ | ⟨rfl,rfl⟩
   ·simp only [g] at hF
    obtain ⟨S,hS,hk⟩:=hF
    exact (hSab S (hSX S hS) k hk).1
   ·simp only [g,if_true] at hF
    rcases hF with rfl | ⟨S',hS',hk'⟩
    ·exact Xfg hb
    ·exact (hSs S' hS' k hk').1
 have hp1:VR w hp g (.pointer (some ⟨b,o,none⟩)) (.ptr 1 [] 0 0):=by
  have:=VR.ptr (w:=w) (h:=hp) (g:=g) (r:=1) (p:=[]) (i:=0) (j:=0) (sz:=cs.length+1) (rows:=[.ref r0 p0::cs]) (b:=b) (o:=o) (n:=1) (c:=1) (by
   rw [Y2 (x:=⟨false,false,true,cs.length+1,[.ref r0 p0::cs]⟩) rfl]
   simp only [walk,g,if_true])
  simpa using this
 have hV:VRs w hp g (vala++.pointer (some ⟨b,o,none⟩)::valb) (avs1++.ptr 1 [] 0 0::avs2):=by
  refine VRs.append ?_ (.cons hp1 ?_)
  ·have:=(n1 [] rfl).more (rX:=rX2++rX3) (gX:=gX2++gX3)
   simp only [List.nil_append] at this
   exact Nms.vrs (List.prefix_refl _) (List.prefix_refl _) hrow this
  ·have:=(n2 gX1 (by simp [hl1.1])).more (rX:=rX3) (gX:=gX3)
   simp only [List.append_assoc] at this
   exact Nms.vrs (List.prefix_refl _) (List.prefix_refl _) hrow this
 let C:Ctx:=⟨E,w,IoW b o (cs.length+1) Ss W,Any,fun _ _ _=>trivial,hJ,hN,fun b' q h=>by
  rcases h with ⟨rfl,h1,h2⟩ | ⟨h1,_⟩
  ·exact hW _ _ (hK q h1 h2).1
  ·exact hW _ _ h1⟩
 have hbd:=Xeh (C:=C) (ts:=[[.pointer (some ⟨b,o,none⟩),ub]]) (w:=w) (wr:=wr) (g:=g) H.ty rfl hO h1 (fun b hb=>Xic H.ty hO b (h3 b hb)) h hV.length (fun m=>⟨⟨hrel,by
  simp only [Array.toList_append,Array.toList_replicate]
  exact hV.append (VRs.undefs m),.cons (.cons hp1 (.cons hnb .nil)) .nil⟩,Fr.refl w _,fun _ _ h _=>h,rfl,rfl⟩)
 refine hbd.mono fun en w' ⟨v,av,a',st',wr',g',he,I,hv,hk⟩=>?_
 have hstk:=I.good.stk
 unfold Xye at hk
 split at hk
 case h_2=>cases hk
 rename_i r i j r1 p1 hs
 rw [hs] at hstk
 have hnm:VR w' st'.heap g' ub (.ref r1 p1):=by
  cases hstk with
  | cons h1 _=>cases h1 with
    | cons _ h2=>cases h2 with
      | cons h3 _=>exact h3
 have hptr:VR w' st'.heap g' (.pointer (some ⟨b,o,none⟩)) (.ptr r [] i j):=by
  cases hstk with
  | cons h1 _=>cases h1 with
    | cons h1 _=>exact h1
 obtain ⟨x,hx,hk⟩:=Ug hk
 have hx:st'.heap[r]?.join=some x:=by rw [hx];rfl
 obtain ⟨ro,virt,box,sz,rows⟩:=x
 simp only at hk
 split at hk
 case h_2=>cases hk
 obtain ⟨b2,o2,us',cs2,arr',e',fz',hbo,hk,hul,Hus,hb2,_,hcell2,_,_,_⟩:=Xzb H.ty I.good.rel hk hptr hx (fun v hv=>by
  split at hv
  ·exact ⟨_,rfl⟩
  ·cases hv)
 simp only [Value.pointer.injEq,Option.some.injEq,Addr.mk.injEq] at hbo
 obtain ⟨rfl,rfl,_⟩:=hbo
 simp only at hk
 split at hk
 case h_2=>cases hk
 rename_i r3 p3 cs3 hx3 hx4
 split at hk
 case h_2=>cases hk
 rename_i heq
 have hk3:=hk
 obtain ⟨e1,e2⟩:=Bool.and_eq_true_iff.1 heq
 have e1:=eq_of_beq e1
 have e2:=Xvx e2
 subst e1 e2
 obtain ⟨u0,us',rfl,Hu0,Hus⟩:∃ u0 us1,us'=u0::us1∧VR w' st'.heap g' u0 (.ref r3 p3)∧VRs w' st'.heap g' us1 cs3:=by
  cases Hus with
  | cons h1 h2=>exact ⟨_,_,rfl,h1,h2⟩
 have hu0:=VR.ref_fun Hu0 hnm
 subst hu0
 have ha0:arr'[o]?=some u0:=by simpa using hcell2 0 u0 rfl
 have hcell3:∀ q u,us'[q]?=some u→arr'[o+1+q]?=some u:=fun q u hq=>by
  have:=hcell2 (q+1) u (by simpa using hq)
  rw [show o+1+q=o+(q+1) by omega]
  exact this
 obtain ⟨out,Ss0,st2,g2,hk,T2,Tk2⟩:=Xeg hk3 I.good .refl Hus
 have hstk2:=Tk2.good.stk
 split at hk
 case h_2=>cases hk
 rename_i r2 i2 j2 nx2 hs2
 rw [hs2] at hstk2
 have hptr2:VR w' st2.heap g2 (.pointer (some ⟨b,o,none⟩)) (.ptr r2 [] i2 j2):=by
  cases hstk2 with
  | cons h1 _=>cases h1 with
    | cons h1 _=>exact h1
 obtain ⟨x2,hx2,hk⟩:=Ug hk
 have hx2:st2.heap[r2]?.join=some x2:=by rw [hx2];rfl
 obtain ⟨ro2,virt2,box2,sz2,rows2⟩:=x2
 simp only at hk
 split at hk
 case h_2=>cases hk
 split at hk
 case h_2=>cases hk
 rename_i hscal
 simp only [Option.some.injEq] at hk
 subst hk
 have hFb:g2.F r2 b:=by
  have hroot:=Tk2.good.rel.root r2 _ hx2
  simp only [Zu] at hroot
  obtain ⟨b1,o1,_,_,_,_,k1,_,_,_,_,k6,_⟩:=hroot
  generalize hpp:(Value.pointer (some ⟨b,o,none⟩))=pp at hptr2
  cases hptr2 with
  | ptr hw =>
    rw [Y2 hx2] at hw
    simp only [walk,Option.some.injEq,Prod.mk.injEq] at hw
    rw [k1] at hw
    simp only [Value.slice.injEq,Option.some.injEq,Addr.mk.injEq] at hw
    simp only [Value.pointer.injEq,Option.some.injEq,Addr.mk.injEq] at hpp
    rw [hpp.1,←hw.1.1.1]
    exact k6
 obtain ⟨arr2,hb3,_,_⟩:=I.fr.cells b arr e fz hb
 rw [hb2] at hb3
 cases hb3
 have hcan:∀ b' q,wr'.can b' q→b'<w.heap.size→IoW b o (cs.length+1) Ss W b' q:=I.can
 refine ⟨v,us',Ss0.map (Xkp w' (Kr w' wr' false)),arr',he,Xot hscal hv,I.fr,hb2,ha0,hcell3,T2.trim.mono (fun b' q hk=>⟨?_,hk.2⟩),fun S hS k hk=>?_⟩
 ·obtain ⟨S0,hS0,rfl⟩:=List.mem_map.1 hS
  obtain ⟨k1,k2,q,k3⟩:=hk
  have hne:k≠b:=fun e=>(Tk2.apart S0 hS0 k k1).2 r2 _ hx2 (e▸hFb)
  refine ⟨hne,k2,fun hlt=>?_⟩
  rcases hcan k q k3.1 hlt with ⟨z1,_⟩ | ⟨_,S,z1,z2⟩
  ·exact absurd z1 hne
  ·exact ⟨S,z1,z2⟩
 ·rcases Nat.lt_or_ge b' w.heap.size with hlt | hge
  ·rcases hcan b' q hk.1 hlt with ⟨rfl,z1,z2⟩ | ⟨z1,_⟩
   ·exact .inr (hK q z1 z2).1
   ·exact .inr z1
  ·exact .inl hge
theorem Xzo (H:CfgOK P E cfg):∀ n,LevOK P E cfg (lev cfg n)
 | 0=>⟨fun f args res _ h=>by simp [lev] at h,fun f args st k res h=>by simp [lev] at h,fun f m args res _ h=>by simp [lev] at h,fun f m args res _ h=>by simp [lev] at h⟩
 | n+1=>by
   have hL:=Xzo H n
   have hO:=Xt7 H.ty H.eqs hL
   refine ⟨fun f args res hm h=>?_,fun f args st k res h=>?_,fun f m args res hm h=>?_,fun f m args res hm h=>?_⟩
   ·change Xc0 cfg (lev cfg n) f args=some res at h
    unfold Xc0 at h
    rw [hm] at h
    simp only at h
    split at h
    ·rename_i e he
     exact H.ext f e he args res h
    ·obtain ⟨fn,hf,h⟩:=Xlh h
     obtain ⟨h1,_,h3⟩:=H.fns _ hf
     have hok:∃ avs hp,body cfg (lev cfg n) f fn avs [] hp (fun v st=>match cfg.own f with
      | true=>ta2 v st fun v _=>some ⟨v,[]⟩
      | false=>none)=some res:=by
      unfold Xhp at h
      have:∀ (l row:List AV) (hp:Heap) (k:List AV→List AV→Heap→R),oa true l row hp k=some res→∃ x y z,k x y z=some res:=by
       have hop0:∀ (s:Nat) (v:AV) (row:List AV) (k:AV→List AV→R),op0 s v row k=some res→∃ x y,k x y=some res:=by
        intro s v row k hk
        cases v <;> simp only [op0] at hk <;> first
         | exact ⟨_,_,hk⟩
         | (cases hk;done)
         | exact ⟨_,_,Xh4 hk⟩
       have hopL:∀ (s:Nat) (l row:List AV) (k:List AV→List AV→R),opL0 s l row k=some res→∃ x y,k x y=some res:=by
        intro s l
        induction l with
        | nil=>exact fun row k hk=>⟨_,_,hk⟩
        | cons v l ih=>intro row k hk;obtain ⟨x,y,hk⟩:=hop0 _ _ _ _ hk;exact ih _ _ hk |>.elim fun x h=>h.elim fun y h=>⟨_,y,h⟩
       have hoaC:∀ (l row:List AV) (hp:Heap) (k:List AV→List AV→Heap→R),oaC true l row hp k=some res→∃ x y z,k x y z=some res:=by
        intro l
        induction l with
        | nil=>exact fun row hp k hk=>⟨_,_,_,hk⟩
        | cons v l ih =>
          intro row hp k hk
          cases v <;> simp only [oaC] at hk
          case pv cs=>have hk:=Xgd hk;obtain ⟨x,y,z,hk⟩:=ih _ _ _ hk;exact ⟨_,_,_,hk⟩
          case agg cs=>obtain ⟨x,y,hk⟩:=hopL _ _ _ _ hk;obtain ⟨x,y,z,hk⟩:=ih _ _ _ hk;exact ⟨_,_,_,hk⟩
          all_goals (obtain ⟨x,y,hk⟩:=hop0 _ _ _ _ hk;obtain ⟨x,y,z,hk⟩:=ih _ _ _ hk;exact ⟨_,_,_,hk⟩)
       intro l
       induction l with
       | nil=>exact fun row hp k hk=>⟨_,_,_,hk⟩
       | cons v l ih =>
         intro row hp k hk
         cases v <;> simp only [oa] at hk
         case pv cs=>have hk:=Xgd hk;obtain ⟨x,y,z,hk⟩:=ih _ _ _ hk;exact ⟨_,_,_,hk⟩
         case agg cs=>obtain ⟨x,y,hk⟩:=hopL _ _ _ _ hk;obtain ⟨x,y,z,hk⟩:=ih _ _ _ hk;exact ⟨_,_,_,hk⟩
         case fn f cs=>obtain ⟨x,y,z,hk⟩:=hoaC _ _ _ _ hk;obtain ⟨x,y,z,hk⟩:=ih _ _ _ hk;exact ⟨_,_,_,hk⟩
         all_goals (obtain ⟨x,y,hk⟩:=hop0 _ _ _ _ hk;obtain ⟨x,y,z,hk⟩:=ih _ _ _ hk;exact ⟨_,_,_,hk⟩)
      obtain ⟨x,y,z,h⟩:=this _ _ _ _ h
      exact ⟨_,_,Xe8 h⟩
     obtain ⟨_,_,hok⟩:=hok
     refine ⟨Xvv H hf hok,fun w vals hJ hN HA=>?_⟩
     obtain ⟨avs,hp,g,h,hR,hV⟩:=Xml h HA
     let C:Ctx:=⟨E,w,Xfh,Any,fun _ _ _=>trivial,hJ,hN,fun _ _ h=>h.elim⟩
     have hb:=Xeh (C:=C) (ts:=[]) (w:=w) (wr:=⟨Xfh,Any⟩) (g:=g) H.ty rfl hO h1 (fun b hb=>Xic H.ty hO b (h3 b hb)) h hV.length (fun m=>⟨⟨hR,by
      simp only [Array.toList_append,Array.toList_replicate]
      exact hV.append (VRs.undefs m),.nil⟩,Fr.refl w Xfh,fun _ _ h _=>h.elim,rfl,rfl⟩)
     refine hb.mono fun en w' ⟨v,av,a',st',wr',g',he,I,hv,hk⟩=>⟨v,he,I.fr,?_⟩
     split at hk
     ·obtain ⟨x,st'',hk,hr⟩:=I.answer (fun _ _ h=>h) hk hv
      simp only [Option.some.injEq] at hk
      subst hk
      exact hr
     ·cases hk
   ·change Xtb cfg (lev cfg n) f args st k=some res at h
    unfold Xtb at h
    obtain ⟨fn,hf,h⟩:=Xlh h
    obtain ⟨h1,_,h3⟩:=H.fns _ hf
    refine ⟨Xvv H hf h,fun C ts w a wr g vals hE I hv=>?_⟩
    have hb:=Xeh (C:=C) (ts:=a.tmps.toList::ts) (w:=w) (wr:=wr) (g:=g) H.ty hE hO h1 (fun b hb=>Xic H.ty hO b (h3 b hb)) h hv.length (fun m=>⟨⟨I.good.rel,by
     simp only [Array.toList_append,Array.toList_replicate]
     exact hv.append (VRs.undefs m),.cons I.good.env I.good.stk⟩,I.fr,I.can,I.dom,rfl⟩)
    refine hb.mono fun en w' ⟨v,av,a',st',wr',g',he,I',hv',hk⟩=>?_
    have hst:=I'.good.stk
    split at hk
    ·rename_i e s hs
     rw [hs] at hst
     cases hst with
     | cons k1 k2=>exact ⟨v,av,⟨e,s,st'.heap⟩,wr',g',he,⟨⟨I'.good.rel,k1,k2⟩,I'.fr,I'.can,I'.dom,I.nodef⟩,hv',hk⟩
    ·cases hk
   ·change Xc0 cfg (lev cfg n) f args=some res at h
    unfold Xc0 at h
    rw [hm] at h
    simp only at h
    obtain ⟨fn,hf,h⟩:=Xlh h
    exact Xsh H hL hf h
   ·change Xc0 cfg (lev cfg n) f args=some res at h
    unfold Xc0 at h
    rw [hm] at h
    simp only at h
    obtain ⟨fn,hf,h⟩:=Xlh h
    exact Xqk H hL hf h
theorem Xsi (H:CfgOK P E cfg) {n:Nat} {f:FuncId} {args:List AV} (hm:cfg.mode f=0) (h:callP cfg n f args=some res) {vals:List Value} (hJ:E.J w) (hN:E.N≤w.heap.size) (HA:ARs w Any vals args) :
 Calls P f vals.toArray w fun e w'=>∃ v,e=.returned v∧Fr w Xfh w'∧PRes w w' v res.val:=by
 unfold callP at h
 exact ((Xzo H n).pure f args res hm h).2 w vals hJ hN HA
end
end Go.Abs
namespace Go.Abs
theorem TyOK.of {P:Program} {t:TypeId} {x:TInfo} {d:TypeDesc} {cells:List Value} (hu:P.underlying t=some d) (hs:ShOK x.shape d)
 (hi:(P.info? t).map (fun i=>(i.size,i.bytes,i.zero.map fun z=>z.cells.toList))=some (x.size,x.bytes,some cells)) (hz:cells.map some=x.zero.map zv) (hl:x.zero.length=x.size)
 (h1:(match x.shape with | .struct _=>true | _=>decide (x.size=1))=true) (hf:(match x.shape with | .struct fs=>fs.all fun p=>(P.info? p.2).isSome | _=>true)=true) (hp:0<x.size):TyOK P t x:=by
 refine ⟨⟨d,hu,hs⟩,?_,hl,fun hn=>?_,fun fs hfs p hpm=>?_,hp⟩
 ·cases hq:P.info? t with
  | none=>rw [hq] at hi;cases hi
  | some i =>
    rw [hq] at hi
    simp only [Option.map_some,Option.some.injEq,Prod.mk.injEq] at hi
    obtain ⟨e1,e2,e3⟩:=hi
    cases hz':i.zero with
    | none=>rw [hz'] at e3;cases e3
    | some z =>
      rw [hz'] at e3
      simp only [Option.map_some,Option.some.injEq] at e3
      exact ⟨i,z,rfl,e1,e2,hz',by rw [e3];exact hz⟩
 ·split at h1
  ·rename_i fs hfs;exact absurd hfs (hn fs)
  ·simpa using h1
 ·rw [hfs] at hf
  exact List.all_eq_true.1 hf p hpm
def Xzp (cfg : Cfg) (y : FuncId × Func) : Bool := !(y.2.name == "runtime.NumGoroutine") && (match y.2.body with | some b => V3 cfg y.1 b | none => true)
theorem X3w {P:Program} {cfg:Cfg} {l:List (FuncId×Func)} (h1:∀ y∈l,P.funcs[y.1]?=some y.2) (h2:l.all (Xzp cfg)=true) :
 ∀ y ∈ l, P.funcs[y.1]? = some y.2 ∧ (y.2.name == "runtime.NumGoroutine") = false ∧ ∀ b, y.2.body = some b → V3 cfg y.1 b = true := by
 intro y hy
 have:=List.all_eq_true.1 h2 y hy
 unfold Xzp at this
 rw [Bool.and_eq_true,Bool.not_eq_true'] at this
 refine ⟨h1 y hy,this.1,fun b hb=>?_⟩
 have h:=this.2
 rw [hb] at h
 exact h
theorem Xxg (cfg:Cfg) (n:Nat) (f:FuncId) (args:List AV):(lev cfg n).pure f args=callP cfg n f args:=by unfold callP;rfl
def memP:List (Nat×Nat)→Nat→Nat→Bool
 | [],_,_=>false
 | (a,b)::l,x,y=>if a=x then (if b=y then true else memP l x y) else memP l x y
def memN:List Nat→Nat→Bool
 | [],_=>false
 | a::l,x=>if a=x then true else memN l x
def Xzq:Env:=⟨fun _=>True,0,fun _ _ _ _ _ _ _=>trivial⟩
theorem AR.int {w:World} {k:IntKind} {n:Int}:AR w Any (.int k n) (.int k n):=.pv (.leaf (TR.int k n))
theorem AR.str {w:World} {s:ByteArray}:AR w Any (.string s) (.str s):=.pv (.leaf (TR.str s))
theorem AR.bool {w:World} {b:Bool}:AR w Any (.bool b) (.bool b):=.pv (.leaf (TR.bool b))
end Go.Abs
namespace Go.Abs
open Go.Deep
def look:List (TypeId×TInfo)→TypeId→Option TInfo
 | [],_=>none
 | (t',x)::l,t=>if t'=t then some x else look l t
theorem Xid {l:List (TypeId×TInfo)} {t:TypeId} {x:TInfo} (h:look l t=some x):(t,x)∈l:=by
 induction l with
 | nil=>cases h
 | cons a l ih =>
   obtain ⟨t',y⟩:=a
   simp only [look] at h
   split at h
   ·rename_i e;subst e;cases h;simp
   ·simp [ih h]
def szOf (l:List (TypeId×TInfo)) (t:TypeId):Nat:=match look l t with
 | some x=>x.size
 | none=>0
def TyF (T:TypeId→List AV→Prop):List (Nat×TypeId)→List AV→Prop
 | [],avs=>avs=[]
 | p::fs,avs=>∃ a b,avs=a++b∧T p.2 a∧TyF T fs b
def Ty (l:List (TypeId×TInfo)):Nat→TypeId→List AV→Prop
 | 0,_,_=>False
 | n+1,t,avs=>match look l t with
   | none=>False
   | some x=>match x.shape with
     | .bool=>∃ b,avs=[.bool b]
     | .int k=>∃ i,avs=[.int k i]∧k.min≤i∧i≤k.max
     | .str=>∃ s,avs=[.str s]∧s.size≤maxLen
     | .slice e=>∃ rows:Rows,avs=[.lst (szOf l e) rows]∧rows.length≤maxLen∧∀ row∈rows,Ty l n e row
     | .struct fs=>TyF (Ty l n) fs avs
     | _=>False
def Xmv (l:List (TypeId×TInfo)):Nat→List (Nat×TypeId)→Nat→Bool
 | off,[],total=>off==total
 | off,(o,t)::fs,total=>o==off&&Xmv l (off+szOf l t) fs total
def good (l:List (TypeId×TInfo)):Nat→TypeId→Bool
 | 0,_=>false
 | n+1,t=>match look l t with
   | none=>false
   | some x=>match x.shape with
     | .bool | .int _ | .str=>true
     | .slice e=>good l n e
     | .struct fs=>Xmv l 0 fs x.size&&fs.all fun p=>good l n p.2
     | _=>false
theorem Xjx {α β:Type} {f:α→Option β}:∀ {l:List α} {r:List β},l.mapM f=some r→r.length=l.length∧∀ (i:Nat) (x:α),l[i]?=some x→f x=r[i]?
 | [],r,h=>by
   simp at h
   subst h
   exact ⟨rfl,fun i x hx=>by simp at hx⟩
 | a::l,r,h=>by
   rw [List.mapM_cons] at h
   cases hf:f a with
   | none=>rw [hf] at h;cases h
   | some b =>
     rw [hf] at h
     cases hm:l.mapM f with
     | none=>rw [hm] at h;cases h
     | some r' =>
       rw [hm] at h
       cases h
       obtain ⟨h1,h2⟩:=Xjx hm
       refine ⟨by simp [h1],fun i x hx=>?_⟩
       cases i with
       | zero=>simp at hx;subst hx;simpa using hf
       | succ i=>simpa using h2 i x (by simpa using hx)
theorem Xt8 {w:World} {base:Nat} {ad:Addr} {n:Nat} {cs:List Value} (h:w.cells? base ad n=some cs):cs.length=n∧∀ i v,cs[i]?=some v→w.cell? (ad.add i)=some v:=by
 unfold World.cells? at h
 split at h
 ·obtain ⟨h1,h2⟩:=Xjx h
  simp only [List.length_range] at h1
  refine ⟨h1,fun i v hv=>?_⟩
  have hi:i<n:=by rw [←h1];exact (List.getElem?_eq_some_iff.1 hv).1
  rw [h2 i i (by simp [hi]),hv]
 ·cases h
theorem Leaves.split {w:World} {K:CS}:∀ {vs:List Value} {l:List AV} (n:Nat),Leaves w K (vs.take n) l→∀ {m:List AV},Leaves w K (vs.drop n) m→Leaves w K vs (l++m)
 | [],_,n,h1,m,h2=>by
   simp only [List.take_nil] at h1
   simp only [List.drop_nil] at h2
   cases h1
   exact h2
 | v::vs,l,0,h1,m,h2=>by
   simp only [List.take_zero] at h1
   cases h1
   exact h2
 | v::vs,l,n+1,h1,m,h2=>by
   simp only [List.take_succ_cons] at h1
   simp only [List.drop_succ_cons] at h2
   cases h1 with
   | cons a b=>exact .cons a (Leaves.split n b h2)
theorem Leaves.of {w:World} {K:CS}:∀ {vs:List Value} {l:List AV},vs.length=l.length→(∀ (j:Nat) (v:Value) (a:AV),vs[j]?=some v→l[j]?=some a→Leaf w K v a)→Leaves w K vs l
 | [],[],_,_=>.nil
 | [],_::_,h,_=>by simp at h
 | _::_,[],h,_=>by simp at h
 | v::vs,a::l,h,hj=>.cons (hj 0 v a rfl rfl) (Leaves.of (by simpa using h) fun j v' a' h1 h2=>hj (j+1) v' a' (by simpa using h1) (by simpa using h2))
section
variable {H:Type} {enc:TypeId×Value→H} {P:Program} {w:World} {base:Nat} {held:Bool} {l:List (TypeId×TInfo)}
theorem Xhg (hT:Z2 P l) {t:TypeId} {x:TInfo} (h:look l t=some x):P.cellsOf t=x.size:=by
 obtain ⟨_,⟨i,z,h1,h2,_⟩,_⟩:=hT _ (Xid h)
 simp only at h1 h2
 simp [Program.cellsOf,h1,h2]
theorem X1k (hT:Z2 P l):∀ (n:Nat) (t:TypeId) (x:TInfo) (fuel:Nat) (cs:List Value) (d:DataW H×List MemPlace),good l n t=true→look l t=some x→DataW.trod enc P w base (fun _=>true) held fuel t cs=some d →
 ∃ avs,Ty l n t avs∧Leaves w Any cs avs∧avs.length=x.size:=by
 intro n
 induction n with
 | zero=>intro t x fuel cs d hg;simp [good] at hg
 | succ n ih =>
   intro t x fuel cs d hg hx h
   have hok:=hT _ (Xid hx)
   obtain ⟨⟨ds,hu,hsh⟩,_,_,hone,_,hpos⟩:=hok
   simp only at hu hsh hone hpos
   cases fuel with
   | zero=>simp [DataW.trod] at h
   | succ fuel =>
   simp only [good,hx] at hg
   simp only [Ty,hx]
   have one:(∀ fs,x.shape≠.struct fs)→x.size=1:=hone
   cases hs:x.shape with
   | bool =>
     rw [hs] at hsh
     simp only [ShOK] at hsh
     subst hsh
     have:∃ b,cs=[.bool b]:=by
      cases cs with
      | nil=>simp [DataW.trod,hu] at h
      | cons v tl=>cases tl with
        | nil=>cases v <;> first | exact ⟨_,rfl⟩ | (simp [DataW.trod,hu] at h;done)
        | cons=>simp [DataW.trod,hu] at h
     obtain ⟨b,rfl⟩:=this
     exact ⟨_,⟨_,rfl⟩,.cons (TR.bool _) .nil,(by rw [one (by simp [hs])];rfl)⟩
   | int k =>
     rw [hs] at hsh
     simp only [ShOK] at hsh
     subst hsh
     have:∃ k' i,cs=[.int k' i]:=by
      cases cs with
      | nil=>simp [DataW.trod,hu] at h
      | cons v tl=>cases tl with
        | nil=>cases v <;> first | exact ⟨_,_,rfl⟩ | (simp [DataW.trod,hu] at h;done)
        | cons=>simp [DataW.trod,hu] at h
     obtain ⟨k',i,rfl⟩:=this
     simp only [DataW.trod,hu] at h
     split at h
     ·rename_i hk
      obtain ⟨rfl,hwf⟩:=hk
      simp only [Lit.wf,Bool.and_eq_true,decide_eq_true_eq] at hwf
      exact ⟨_,⟨_,rfl,hwf.1,hwf.2⟩,.cons (TR.int _ _) .nil,(by rw [one (by simp [hs])];rfl)⟩
     ·cases h
   | str =>
     rw [hs] at hsh
     simp only [ShOK] at hsh
     subst hsh
     have:∃ s,cs=[.string s]:=by
      cases cs with
      | nil=>simp [DataW.trod,hu] at h
      | cons v tl=>cases tl with
        | nil=>cases v <;> first | exact ⟨_,rfl⟩ | (simp [DataW.trod,hu] at h;done)
        | cons=>simp [DataW.trod,hu] at h
     obtain ⟨s,rfl⟩:=this
     simp only [DataW.trod,hu] at h
     split at h
     ·rename_i hk
      exact ⟨_,⟨_,rfl,hk⟩,.cons (TR.str _) .nil,(by rw [one (by simp [hs])];rfl)⟩
     ·cases h
   | slice e =>
     rw [hs] at hsh
     simp only [ShOK] at hsh
     subst hsh
     simp only [hs] at hg
     have hsz:=one (by simp [hs])
     cases hy:look l e with
     | none=>cases n <;> simp [good,hy] at hg
     | some y =>
       have hcell:=Xhg hT hy
       have hypos:=(hT _ (Xid hy)).pos
       simp only at hypos
       have hszo:szOf l e=y.size:=by simp [szOf,hy]
       rcases open_slice hu h with ⟨rfl,_⟩ | ⟨ad,len,cap,m,fu,D,Pl,rfl,hb,hlc,hcm,hm,_,hel⟩
       ·exact ⟨[.lst (szOf l e) []],⟨[],rfl,Nat.zero_le _,fun row hr=>by simp at hr⟩,.cons TR.nil .nil,by simp [hsz]⟩
       ·simp only [if_true] at hm
        subst hm
        have each:∀ i,i<m→∃ row,Ty l n e row∧row.length=y.size∧(∀ j a,row[j]?=some a→∃ v,w.cell? (ad.add (i*y.size+j))=some v∧Leaf w Any v a):=by
         intro i hi
         obtain ⟨cs',hc1,hc2⟩:=hel i hi
         rw [hcell] at hc1
         obtain ⟨hc3,hc4⟩:=Xt8 hc1
         obtain ⟨row,h1,h2,h3⟩:=ih e y fu cs' _ hg hy hc2
         refine ⟨row,h1,h3,fun j a ha=>?_⟩
         obtain ⟨v,hv,hlf⟩:=h2.get ha
         have:=hc4 j v hv
         rw [add_add] at this
         exact ⟨v,this,hlf⟩
        obtain ⟨f,hf⟩:=choose_lt (n:=m) each
        have hrows:((List.range len).map f).length=len:=by simp
        refine ⟨[.lst (szOf l e) ((List.range len).map f)],⟨_,rfl,by rw [hrows];omega,fun row hr=>?_⟩,.cons ?_ .nil,by simp [hsz]⟩
        ·obtain ⟨i,hi,rfl⟩:=List.mem_map.1 hr
         exact (hf i (by have:=List.mem_range.1 hi;omega)).1
        ·rw [hszo]
         by_cases hm0:m=0
         ·subst hm0
          obtain rfl:len=0:=by omega
          exact TR.nil
         ·obtain ⟨_,hl0,hc0⟩:=hf 0 (by omega)
          have h00:(f 0)[0]?=some (f 0)[0]:=List.getElem?_eq_getElem (by omega)
          obtain ⟨v0,hv0,_⟩:=hc0 0 _ h00
          have hspot:ad.spot=none:=by
           have:ad.add (0*y.size+0)=ad:=by simp [Addr.add]
           rw [this] at hv0
           simp only [World.cell?] at hv0
           split at hv0
           ·split at hv0
            ·cases hv0
            ·rename_i hsp;simpa using hsp
           ·cases hv0
          obtain ⟨b,o,sp⟩:=ad
          simp only at hspot
          subst hspot
          simp only [Addr.add_eq] at hf hv0
          obtain ⟨arr,te,fz,hbk,_⟩:=Xon hv0
          obtain ⟨_,hl1,hc1⟩:=hf (m - 1) (by omega)
          have h11:(f (m - 1))[y.size - 1]?=some (f (m - 1))[y.size - 1]:=List.getElem?_eq_getElem (by omega)
          obtain ⟨v1,hv1,_⟩:=hc1 _ _ h11
          rw [Wj hbk] at hv1
          have hlt:=(Array.getElem?_eq_some_iff.1 hv1).1
          have hbound:o+m*y.size≤arr.size:=by
           have:(m - 1)*y.size+y.size=m*y.size:=by rw [←Nat.succ_mul];congr 1;omega
           omega
          have hmain:=TR.lst (w:=w) (own:=false) (K:=Any) (S:=fun k=>k<w.heap.size) (b:=b) (o:=o) (c:=m) (cs:=arr) (e:=te) (fz:=fz) (sz:=y.size) (rows:=(List.range len).map f) (fun _ _ k=>k<w.heap.size)
           hbk hbound (by rw [hrows];exact hlc) (fun row hr=>by
            obtain ⟨i,hi,rfl⟩:=List.mem_map.1 hr
            exact (hf i (by have:=List.mem_range.1 hi;omega)).2.1) ⟨Nat.mul_pos (by omega) hypos,fun _ _ _=>trivial⟩ (Xfg hbk) (fun _ _ _ h=>h) (fun h=>by cases h) (fun i j row a hr ha=>by
            rw [List.getElem?_map,Option.map_eq_some_iff] at hr
            obtain ⟨i',hi',rfl⟩:=hr
            have hil:i<len:=by
             have:=(List.getElem?_eq_some_iff.1 hi').1
             simpa using this
            have:i'=i:=by
             rw [List.getElem?_range hil] at hi'
             simpa using hi'.symm
            subst this
            obtain ⟨v,hv,hlf⟩:=(hf i' (by omega)).2.2 j a ha
            rw [Wj hbk,←Nat.add_assoc] at hv
            rw [Xa5 hv]
            exact hlf)
          rw [hrows] at hmain
          exact hmain
   | struct fs =>
     rw [hs] at hsh
     obtain ⟨fa,rfl,hfa⟩:=hsh
     simp only [hs,Bool.and_eq_true] at hg
     have h':cs.length=P.cellsOf t∧∃ xs,(fa.toList.mapM fun f=>DataW.trod enc P w base (fun _=>true) held fuel f.type ((cs.drop f.offset).take (P.cellsOf f.type)))=some xs:=by
      have e1:DataW.trod enc P w base (fun _=>true) held (fuel+1) t cs=(if cs.length=P.cellsOf t then (fa.toList.mapM fun f=>DataW.trod enc P w base (fun _=>true) held fuel f.type ((cs.drop f.offset).take (P.cellsOf f.type))).map fun xs=>(.agg (xs.map (·.1)),xs.flatMap (·.2)) else none):=by
       rw [DataW.trod]
       simp only [hu]
      rw [e1] at h
      split at h
      ·rename_i hl
       refine ⟨hl,?_⟩
       cases hm:(fa.toList.mapM fun f=>DataW.trod enc P w base (fun _=>true) held fuel f.type ((cs.drop f.offset).take (P.cellsOf f.type))) with
       | none=>rw [hm] at h;cases h
       | some xs=>exact ⟨xs,rfl⟩
      ·cases h
     obtain ⟨hl,xs,hxs⟩:=h'
     rw [Xhg hT hx] at hl
     have each:∀ p∈fs,∃ d',DataW.trod enc P w base (fun _=>true) held fuel p.2 ((cs.drop p.1).take (P.cellsOf p.2))=some d':=by
      intro p hp
      rw [←hfa] at hp
      obtain ⟨f,hf,rfl⟩:=List.mem_map.1 hp
      obtain ⟨i,hi⟩:=List.mem_iff_getElem?.1 hf
      obtain ⟨k1,k2⟩:=Xjx hxs
      have hk:=k2 i f hi
      have hil:i<xs.length:=by rw [k1];exact (List.getElem?_eq_some_iff.1 hi).1
      rw [List.getElem?_eq_getElem hil] at hk
      exact ⟨_,hk⟩
     have go:∀ (fs':List (Nat×TypeId)) (off:Nat),(∀ p∈fs',p∈fs)→Xmv l off fs' x.size=true→fs'.all (fun p=>good l n p.2)=true→∃ avs,TyF (Ty l n) fs' avs∧Leaves w Any (cs.drop off) avs:=by
      intro fs'
      induction fs' with
      | nil =>
        intro off _ hc _
        simp only [Xmv,beq_iff_eq] at hc
        refine ⟨[],rfl,?_⟩
        rw [List.drop_eq_nil_of_le (by omega)]
        exact .nil
      | cons p fs' ihf =>
        intro off hsub hc hgd
        obtain ⟨o,t'⟩:=p
        simp only [Xmv,Bool.and_eq_true,beq_iff_eq] at hc
        obtain ⟨rfl,hc⟩:=hc
        simp only [List.all_cons,Bool.and_eq_true] at hgd
        obtain ⟨b,hb1,hb2⟩:=ihf (o+szOf l t') (fun p hp=>hsub p (by simp [hp])) hc hgd.2
        obtain ⟨d',hd'⟩:=each (o,t') (hsub _ (by simp))
        simp only at hd'
        cases hy:look l t' with
        | none =>
          have:=hgd.1
          cases n <;> simp [good,hy] at this
        | some y =>
          obtain ⟨a,ha1,ha2,ha3⟩:=ih t' y fuel _ d' hgd.1 hy hd'
          have hszo:szOf l t'=y.size:=by simp [szOf,hy]
          rw [Xhg hT hy] at ha2
          rw [hszo,←List.drop_drop] at hb2
          exact ⟨a++b,⟨a,b,rfl,ha1,hb1⟩,Leaves.split y.size ha2 hb2⟩
     obtain ⟨avs,h1,h2⟩:=go fs 0 (fun _ h=>h) hg.1 hg.2
     rw [List.drop_zero] at h2
     exact ⟨avs,h1,h2,by rw [←h2.length,hl]⟩
   | ptr e=>simp [hs] at hg
   | func=>simp [hs] at hg
   | other=>simp [hs] at hg
end
end Go.Abs
namespace Go.Abs
open Go.ChangeShapes Go.WideShapes Go.RowKit
def un1 (avs:List AV):AV:=match avs with
 | [a]=>a
 | _=>.undef
def argA (x:TInfo) (avs:List AV):AV:=match x.shape with
 | .struct _=>.agg avs
 | _=>un1 avs
inductive TyArgs (l:List (TypeId×TInfo)):List TypeId→List AV→Prop
 | nil:TyArgs l [] []
 | cons {t:TypeId} {x:TInfo} {avs:List AV} {ts:List TypeId} {as:List AV} (hx:look l t=some x) (h1:Ty l 9 t avs) (h2:TyArgs l ts as):TyArgs l (t::ts) (argA x avs::as)
theorem Fr.below {w w':World} (F:Fr w Xfh w'):Go.RowKit.Below w.heap.size w w':=⟨F.os,F.tape,F.output,F.size,fun k hk=>F.block k hk (fun _ h=>h)⟩
section
variable {H:Type} {enc:TypeId×Value→H} {P:Program} {cfg:Cfg} {W:World} {base:Nat}
theorem X3x (hT:Z2 P cfg.ty) {t:TypeId} {v:Value} {d:DataW H} {p:List MemPlace} (hg:good cfg.ty 9 t=true) (h:DataW.Trod enc P W 0 (fun _=>true) true t v d p) (hv:Value.okWide P W .any base t v) :
 ∃ x avs,look cfg.ty t=some x∧Ty cfg.ty 9 t avs∧AR W Any v (argA x avs):=by
 obtain ⟨fuel,hf⟩:=h
 cases hx:look cfg.ty t with
 | none=>simp [good,hx] at hg
 | some x =>
   obtain ⟨avs,h1,h2,h3⟩:=X1k hT 9 t x fuel _ _ hg hx hf
   refine ⟨x,avs,rfl,h1,?_⟩
   obtain ⟨⟨ds,hu,hsh⟩,_,_,hone,_⟩:=hT _ (Xid hx)
   simp only at hu hsh hone
   unfold argA
   have single:v.cells.toList=[v]→x.size=1→AR W Any v (un1 avs):=by
    intro hc hs
    rw [hc] at h2
    cases h2 with
    | cons k1 k2=>cases k2;exact .pv (.leaf k1)
   cases hs:x.shape with
   | struct fs =>
     rw [hs] at hsh
     obtain ⟨fa,rfl,_⟩:=hsh
     simp only [Value.okWide,hu] at hv
     obtain ⟨cs,rfl,_⟩:=hv
     simp only
     have:=AR.agg h2
     simpa [Value.cells] using this
   | bool =>
     rw [hs] at hsh
     simp only [ShOK] at hsh
     subst hsh
     simp only [Value.okWide,hu,Cell.okWide,Cell.ok] at hv
     simp only
     refine single ?_ (hone (by simp [hs]))
     cases v <;> first | rfl | (cases hv;done)
   | int k =>
     rw [hs] at hsh
     simp only [ShOK] at hsh
     subst hsh
     simp only [Value.okWide,hu,Cell.okWide,Cell.ok] at hv
     simp only
     refine single ?_ (hone (by simp [hs]))
     cases v <;> first | rfl | (cases hv;done)
   | str =>
     rw [hs] at hsh
     simp only [ShOK] at hsh
     subst hsh
     simp only [Value.okWide,hu,Cell.okWide,Cell.ok] at hv
     simp only
     refine single ?_ (hone (by simp [hs]))
     cases v <;> first | rfl | (cases hv;done)
   | slice e =>
     rw [hs] at hsh
     simp only [ShOK] at hsh
     subst hsh
     simp only [Value.okWide,hu,Cell.okWide,Cell.ok] at hv
     simp only
     refine single ?_ (hone (by simp [hs]))
     cases v <;> first | rfl | (cases hv;done)
   | ptr e=>simp [good,hx,hs] at hg
   | func=>simp [good,hx,hs] at hg
   | other=>simp [good,hx,hs] at hg
theorem Xvz (hT:Z2 P cfg.ty):∀ {ts:List TypeId} {vs:List Value} {ds:List (DataW H)} {ps:List MemPlace},(∀ t∈ts,good cfg.ty 9 t=true)→DataW.TrodAll enc P W 0 (fun _=>true) true ts vs ds ps →
 (∀ (j:Nat) t v,ts[j]?=some t→vs[j]?=some v→Value.okWide P W .any base t v)→∃ as,TyArgs cfg.ty ts as∧ARs W Any vs as
 | [],[],[],_,_,_,_=>⟨[],.nil,.nil⟩
 | t::ts,v::vs,d::ds,_,hg,⟨p,q,h1,h2,_⟩,hv=>by
   obtain ⟨x,avs,e1,e2,e3⟩:=X3x hT (hg t (by simp)) h1 (hv 0 t v rfl rfl)
   obtain ⟨as,e4,e5⟩:=Xvz hT (fun t ht=>hg t (by simp [ht])) h2 (fun j t v a b=>hv (j+1) t v (by simpa using a) (by simpa using b))
   exact ⟨_,.cons e1 e2 e4,.cons e3 e5⟩
theorem Xo7 {w:World} {b:Nat} {sp:Nat→Bool} {hd:Bool}:∀ {ts:List TypeId} {vs:List Value} {ds:List (DataW H)} {ps:List MemPlace},DataW.TrodAll enc P w b sp hd ts vs ds ps→ds.length=ts.length
 | [],[],[],_,_=>rfl
 | _::_,_::_,_::_,_,⟨_,_,_,h2,_⟩=>by simp [Xo7 h2]
theorem Xmw (hl:laidOutB P=true) {W':World} (hb:Go.RowKit.Below W.heap.size W W'):∀ {ts:List TypeId} {vs:List Value} {ds:List (DataW H)} {ps:List MemPlace},(∀ t∈ts,P.readableRec t=true∧t<P.types.size)→DataW.TrodAll enc P W 0 (fun _=>true) true ts vs ds ps →
 (∀ x∈ps,x.block<W.heap.size)→DataW.TrodAll enc P W' 0 (fun b=>decide (b<W.heap.size)) true ts vs ds ps
 | [],[],[],_,_,h,_=>h
 | t::ts,v::vs,d::ds,_,hr,⟨p,q,h1,h2,e⟩,hlt=>by
   subst e
   exact ⟨p,q,Go.RowKit.Below.trod hl (hr t (by simp)).1 (hr t (by simp)).2 h1 hb (fun x hx=>hlt x (by simp [hx])),Xmw hl hb (fun t ht=>hr t (by simp [ht])) h2 (fun x hx=>hlt x (by simp [hx])),rfl⟩
theorem law_contract (hc:CfgOK P Xzq cfg) {s:ChangeSpec} {fn:Func} {fid:FuncId} {ts:List TypeId} {tb:TypeId} {apart fresh handsOn:Bool}
 (hpar:fn.params.toList=ts) (hres:fn.resultTypes=#[tb]) (htb:P.underlying tb=some .bool) (hvars:s.vars=[])
 (hfn:∀ ds:List (DataW H),ds.length=ts.length→s.fn H ds={results:=[.lit (.bool true)],args:=ds}) (hl:laidOutB P=true) (hr:∀ t∈ts,P.readableRec t=true∧t<P.types.size) (hm:cfg.mode fid=0)
 (hg:∀ t∈ts,good cfg.ty 9 t=true) (pure:∀ as,TyArgs cfg.ty ts as→∃ n out,callP cfg n fid as=some ⟨.bool true,out⟩)
 {args:Array Value} {ds gs:List (DataW H)} {before:List MemPlace} (hval:∀ (j:Nat) t v,fn.params[j]?=some t→args[j]?=some v→Value.okWide P W .any base t v)
 (hW:DataW.Whole enc P fn.params.toList s.vars apart W args.toList ds gs before) :
 Calls P fid args W fun e W'=>∃ v,e=.returned v∧s.post enc P fn apart fresh handsOn false W args v W':=by
 have hW':=hW
 have hlt0:∀ p∈before,p.block<W.heap.size:=fun p hp=>hW.lt p hp
 obtain ⟨p,q,hA,hV,rfl,hfz,hnd⟩:=hW
 rw [hvars] at hV
 obtain ⟨rfl,rfl⟩:=trodVars_none hV
 rw [hpar] at hA
 obtain ⟨as,e1,e2⟩:=Xvz hc.ty hg hA (fun j t v a b=>hval j t v (by rw [←Array.getElem?_toList,hpar];exact a) (by rw [←Array.getElem?_toList];exact b))
 obtain ⟨n,out,hn⟩:=pure as e1
 have hcall:=Xsi hc hm hn (w:=W) trivial (Nat.zero_le _) e2
 rw [Array.toArray_toList] at hcall
 refine hcall.mono fun e W' ⟨v,he,F,T⟩=>⟨v,he,?_⟩
 obtain ⟨Ss,T,_⟩:=T
 have hvb:v=.bool true:=by
  cases T with
  | one T=>cases T with
    | one T=>cases T;rfl
 subst hvb
 have hlen:ds.length=ts.length:=Xo7 hA
 have hsf:=hfn ds hlen
 have hlt:∀ x∈p,x.block<W.heap.size:=fun x hx=>hlt0 x (by simp [hx])
 refine ⟨ds,[],p++[],[],p,[],hW',?_,?_,?_,F.below.frame _,fun h=>(nomatch h)⟩
 ·rw [List.append_nil,hsf,hres]
  exact trodAll_mk1 (shut_bool htb true)
 ·rw [List.append_nil,hsf,hpar]
  exact Xmw hl F.below hr hA hlt
 ·rw [hvars,List.append_nil,hsf]
  rfl
end
end Go.Abs
namespace Go.Abs
theorem Xn {b:Bool} {x y:R} (h:b=true):br b x y=x:=by subst h;exact Vn _ _
theorem Uk {b:Bool} {x y:R} (h:b=false):br b x y=y:=by subst h;exact Wk _ _
theorem Xd {cfg:Cfg} {n:Nat} {f:FuncId} {args:List AV} {v:Res} {k:Res→R} (h:callP cfg n f args=some v):bnd ((lev cfg n).pure f args) k=k v:=by
 rw [Xxg,h,Xez]
end Go.Abs
namespace Go.Abs
theorem Xb {n:Nat} {live:List Nat} {body:St→(Exit→St→R)→R} {c:Exit→St→R} {fuel:Nat} {e:List AV} {s:List (List AV)} {h:Heap} (E:List AV→Nat→List AV) (H:Heap→Nat→Heap) (F:Nat→R) (N:Nat) (hN:N<fuel)
 (h0:(⟨E e 0,s,H h 0⟩:St)=⟨e,s,h⟩)
 (step:∀ k f,k≤N→(k<N→∀ e' h',e'=E e (k+1)→h'=H h (k+1)→Ud n live body f ⟨e',s,h'⟩ c=F (k+1))→(body ⟨E e k,s,H h k⟩ fun x st=>match x with
  | .normal=>Xhs n live st fun st=>Ud n live body f st c
  | x=>c x st)=F k):Ud n live body fuel ⟨e,s,h⟩ c=F 0:=by
 have main:∀ d k f,k≤N→N - k=d→d<f→Ud n live body f ⟨E e k,s,H h k⟩ c=F k:=by
  intro d
  induction d with
  | zero =>
    intro k f hk hd hf
    obtain ⟨f,rfl⟩:∃ m,f=m+1:=⟨f - 1,by omega⟩
    rw [Xcy]
    exact step k f hk (fun hlt=>absurd hlt (by omega))
  | succ d ih =>
    intro k f hk hd hf
    obtain ⟨f,rfl⟩:∃ m,f=m+1:=⟨f - 1,by omega⟩
    rw [Xcy]
    exact step k f hk (fun hlt e' h' he hh=>by rw [he,hh];exact ih (k+1) f (by omega) (by omega) (by omega))
 rw [←h0]
 exact main N 0 fuel (Nat.zero_le _) (by omega) hN
theorem Xb4 {l:Rows} {i:Nat} {row:List AV} {k:List AV→R} (h:l[i]?=some row):Z6 l i k=k row:=by
 induction l generalizing i with
 | nil=>simp at h
 | cons a l ih=>cases i with
   | zero=>simp at h;subst h;rfl
   | succ i=>exact ih (by simpa using h)
theorem Xe {α:Type} [Inhabited α] {l:List α} {f:α→List AV} {i:Nat} (h:i<l.length):(l.map f)[i]?=some (f (l.getD i default)):=by
 simp [List.getD_eq_getElem?_getD,h]
theorem Xq {α:Type} [Inhabited α] {l:List α} {i:Nat} (h:i<l.length):l.drop i=l.getD i default::l.drop (i+1):=by
 rw [List.drop_eq_getElem_cons h]
 congr 1
 simp [List.getD_eq_getElem?_getD,h]
theorem Xc {x:Int} (h1:-9223372036854775808≤x) (h2:x≤9223372036854775807):IntKind.i64.wrap x=x:=by
 rw [IntKind.wrap_i64];omega
theorem Zn {a b:Int} (h:a≠b):(a !=b)=true:=by simpa using h
theorem Yb {a b:Int} (h:a=b):(a !=b)=false:=by simpa using h
theorem Yk {a b:Int} (h:a=b):(a==b)=true:=by simpa using h
theorem Xt {a b:Int} (h:a≠b):(a==b)=false:=by simpa using h
theorem Xt9 {l:Rows} {i:Nat} {row:List AV} {k:List AV→R} (h:i<l.length):Z6 (l.set i row) i k=k row:=Xb4 (by simp [h])
def Qn {α:Type} (f:α→List AV) (z:List AV) (xs:List α) (k:Nat):Rows:=(xs.take k).map f++List.replicate (xs.length - k) z
theorem Xhh {α:Type} {f:α→List AV} {z:List AV} {xs:List α} {n:Int} (h:n=(xs.length:Int)):List.replicate n.toNat z=Qn f z xs 0:=by
 subst h;simp [Qn]
theorem Xb5 {α:Type} {f:α→List AV} {z:List AV} {xs:List α} {k:Nat} (h:k≤xs.length):(Qn f z xs k).length=xs.length:=by
 simp [Qn];omega
theorem Xjy {α:Type} {f:α→List AV} {z:List AV} {xs:List α} {k:Nat} (h:k<xs.length):(Qn f z xs k)[k]?=some z:=by
 unfold Qn
 have hl:((xs.take k).map f).length=k:=by rw [List.length_map,List.length_take];omega
 rw [List.getElem?_append_right (by rw [hl];exact Nat.le_refl _),hl,Nat.sub_self,List.getElem?_replicate,if_pos (by omega)]
theorem Xjz {α:Type} [Inhabited α] {f:α→List AV} {z:List AV} {xs:List α} {k:Nat} (h:k<xs.length):(Qn f z xs k).set k (f (xs.getD k default))=Qn f z xs (k+1):=by
 unfold Qn
 have hl:((xs.take k).map f).length=k:=by rw [List.length_map,List.length_take];omega
 rw [List.set_append_right _ _ (by rw [hl];exact Nat.le_refl _),hl,Nat.sub_self]
 obtain ⟨m,hm⟩:∃ m,xs.length - k=m+1:=⟨xs.length - k - 1,by omega⟩
 have hm':xs.length - (k+1)=m:=by omega
 have hv:xs.getD k default=xs[k]:=by simp [List.getD_eq_getElem?_getD,h]
 rw [hm,hm',List.replicate_succ,List.set_cons_zero,List.take_succ_eq_append_getElem h,hv,List.map_append]
 simp only [List.map_cons,List.map_nil,List.append_assoc,List.singleton_append]
theorem Xj0 {α:Type} {f:α→List AV} {z:List AV} {xs:List α}:Qn f z xs xs.length=xs.map f:=by simp [Qn]
end Go.Abs
namespace Go.Abs
theorem X9 {n:Nat} {live:List Nat} {body:St→(Exit→St→R)→R} {c:Exit→St→R} {fuel:Nat} {e0:List AV} {s:List (List AV)} {hp:Heap} {σ:Type} (E:List AV→σ→List AV) (H:Heap→σ→Heap) (F:σ→R) (I:σ→Prop) (μ:σ→Nat) (x0:σ)
 (h0:(⟨E e0 x0,s,H hp x0⟩:St)=⟨e0,s,hp⟩) (i0:I x0) (hN:μ x0<fuel)
 (step:∀ x f,I x→(∀ y e' h',I y→μ y<μ x→e'=E e0 y→h'=H hp y→Ud n live body f ⟨e',s,h'⟩ c=F y)→(body ⟨E e0 x,s,H hp x⟩ fun x st=>match x with
  | .normal=>Xhs n live st fun st=>Ud n live body f st c
  | x=>c x st)=F x):Ud n live body fuel ⟨e0,s,hp⟩ c=F x0:=by
 have main:∀ d x f,I x→μ x=d→d<f→Ud n live body f ⟨E e0 x,s,H hp x⟩ c=F x:=by
  intro d
  induction d using Nat.strongRecOn with
  | ind d ih =>
    intro x f hI hd hf
    obtain ⟨f,rfl⟩:∃ m,f=m+1:=⟨f - 1,by omega⟩
    rw [Xcy]
    exact step x f hI (fun y e' h' hy hlt he hh=>by rw [he,hh];exact ih (μ y) (by omega) y f hy rfl (by omega))
 rw [←h0]
 exact main (μ x0) x0 fuel i0 rfl hN
theorem Xf {α:Type} {xs:List α} {f:α→List AV} {k:Nat} (h:k<xs.length):decide ((k:Int)<((xs.map f).length:Int))=true:=by simpa using h
theorem Xh {α:Type} {xs:List α} {f:α→List AV} {k:Nat} (h:xs.length≤k):decide ((k:Int)<((xs.map f).length:Int))=false:=by simpa using h
theorem Xg (k:Nat):decide ((0:Int)≤(k:Int))=true:=by simp
theorem Xv {k:Nat} (h:k<9223372036854775807):IntKind.i64.wrap ((k:Int)+1)=((k+1:Nat):Int):=by rw [Xc] <;> omega
theorem Xi {α:Type} [Inhabited α] {xs:List α} {k:Nat} (h:k<xs.length):xs.getD k default∈xs:=by
 have:xs.getD k default=xs[k]:=by simp [List.getD_eq_getElem?_getD,h]
 rw [this];exact List.getElem_mem h
theorem Xxh {x r:R} {k:St→R} {st:St} (h:x=some (encI st)) (h2:k st=r):bndS x k=r:=(Xxz h).trans h2
end Go.Abs
namespace Go.Abs
theorem Xzr {α:Type} (ys xs:List α) (k:Nat):∃ l,l=ys.take k++xs.drop k:=⟨_,rfl⟩
@[irreducible] noncomputable def mix {α:Type} (ys xs:List α) (k:Nat):List α:=Classical.choose (Xzr ys xs k)
theorem Xgf {α:Type} (ys xs:List α) (k:Nat):mix ys xs k=ys.take k++xs.drop k:=by unfold mix;exact Classical.choose_spec (Xzr ys xs k)
theorem Zd {α:Type} (ys xs:List α):mix ys xs 0=xs:=by simp [Xgf]
theorem Yg {α:Type} {ys xs:List α} {k:Nat} (h:ys.length=xs.length) (hk:k≤xs.length):(mix ys xs k).length=xs.length:=by
 simp [Xgf];omega
theorem Zv {α:Type} [Inhabited α] {f:α→List AV} {ys xs:List α} {k:Nat} (h:ys.length=xs.length) (hk:k<xs.length):((mix ys xs k).map f)[k]?=some (f (xs.getD k default)):=by
 have hl:(ys.take k).length=k:=by rw [List.length_take];omega
 have e:(mix ys xs k)[k]?=xs[k]?:=by
  rw [Xgf]
  rw [List.getElem?_append_right (by rw [hl];exact Nat.le_refl _),hl,Nat.sub_self,List.getElem?_drop,Nat.add_zero]
 rw [List.getElem?_map,e]
 simp [List.getD_eq_getElem?_getD,hk]
theorem Zy {α:Type} {f:α→List AV} {ys xs:List α} {k:Nat} {y:α} (h:ys.length=xs.length) (hk:k<xs.length) (hy:ys[k]?=some y):((mix ys xs k).map f).set k (f y)=(mix ys xs (k+1)).map f:=by
 have hl:(ys.take k).length=k:=by rw [List.length_take];omega
 have hky:k<ys.length:=by omega
 have e:ys[k]=y:=by rw [List.getElem?_eq_getElem hky] at hy;exact Option.some.inj hy
 rw [Xgf,Xgf]
 rw [List.map_append,List.map_append,List.set_append_right _ _ (by rw [List.length_map,hl];exact Nat.le_refl _),List.length_map,hl,Nat.sub_self,List.drop_eq_getElem_cons hk,List.map_cons,List.set_cons_zero,List.take_succ_eq_append_getElem hky,e,List.map_append]
 simp only [List.map_cons,List.map_nil,List.append_assoc,List.singleton_append]
theorem Zz {α:Type} {ys xs:List α} {k:Nat} (h:ys.length=xs.length) (hk:k=xs.length):mix ys xs k=ys:=by
 subst hk
 simp [Xgf,←h]
theorem Xzs {l:Rows} {k:Nat} {row:List AV} (h:l[k]?=some row):l.set k row=l:=by
 have hk:k<l.length:=(List.getElem?_eq_some_iff.1 h).1
 have e:l[k]=row:=by rw [List.getElem?_eq_getElem hk] at h;exact Option.some.inj h
 rw [←e,List.set_getElem_self]
theorem Uv {l:List (List AV)} {i j:Nat} {x:List AV} (h:i<l.length):decide ((i:Int)<((l.set j x).length:Int))=true:=by
 rw [List.length_set];simpa using h
theorem Qb (sz:Nat) (rows:Rows) (k:Nat→Rows→R):navR [] sz rows k=k sz rows:=by rw [Xhn];rfl
theorem X1l {rows:Rows} {i j:Nat} {row:List AV} {p:Path} {sz sz':Nat} {rows':Rows} {k:Nat→Rows→R} (h1:rows[i]?=some row) (h2:row[j]?=some (.lst sz' rows')):navR ((i,j)::p) sz rows k=navR p sz' rows' k:=by
 rw [Xhn,Xdm,Xb4 h1]
 have:∀ (l:List AV) (j:Nat) (v:AV) (k:AV→R),l[j]?=some v→getE l j k=k v:=by
  intro l j v k h
  induction l generalizing j with
  | nil=>simp at h
  | cons a l ih=>cases j with
    | zero=>simp at h;subst h;rfl
    | succ j=>exact ih j (by simpa using h)
 rw [this _ _ _ _ h2]
theorem Qc (rows:Rows) (f:Rows→(Rows→R)→R) (k:Rows→R):modR [] rows f k=f rows k:=by rw [Xho];rfl
theorem X1m {rows:Rows} {i j:Nat} {row:List AV} {p:Path} {sz':Nat} {rows':Rows} {f:Rows→(Rows→R)→R} {k:Rows→R} (h1:rows[i]?=some row) (h2:row[j]?=some (.lst sz' rows')):modR ((i,j)::p) rows f k=modR p rows' f fun rows''=>Ve rows i j (.lst sz' rows'') k:=by
 rw [Xho,Xn7,Xb4 h1]
 have:∀ (l:List AV) (j:Nat) (v:AV) (k:AV→R),l[j]?=some v→getE l j k=k v:=by
  intro l j v k h
  induction l generalizing j with
  | nil=>simp at h
  | cons a l ih=>cases j with
    | zero=>simp at h;subst h;rfl
    | succ j=>exact ih j (by simpa using h)
 rw [this _ _ _ _ h2]
theorem Xzt {rows:Rows} {i j:Nat} {row:List AV} {p:Path} {sz sz':Nat} {rows':Rows} {k:Nat→Rows→R} (h1:rows[i]?=some row) (h2:row[j]?=some (.lst sz' rows')):navR (((i:Int).toNat,j)::p) sz rows k=navR p sz' rows' k:=X1l h1 h2
theorem Xzu {rows:Rows} {i j:Nat} {row:List AV} {p:Path} {sz':Nat} {rows':Rows} {f:Rows→(Rows→R)→R} {k:Rows→R} (h1:rows[i]?=some row) (h2:row[j]?=some (.lst sz' rows')):modR (((i:Int).toNat,j)::p) rows f k=modR p rows' f fun rows''=>Ve rows ((i:Int).toNat) j (.lst sz' rows'') k:=X1m h1 h2
theorem Zw {l:Rows} {i:Nat} {row:List AV} (h:i<l.length):(l.set i row)[i]?=some row:=by simp [h]
end Go.Abs
namespace Go.Abs
theorem Xo8 {b:Bool} {x y:R} (h:b=true):br (!b) x y=y:=by rw [h];exact Wk x y
theorem Xo9 {b:Bool} {x y:R} (h:b=false):br (!b) x y=x:=by rw [h];exact Vn x y
end Go.Abs
namespace Go.Abs
@[irreducible] def Ru (x y:R):Prop:=x=y
@[irreducible] def W (x:R):R:=x
theorem W_eq (x:R):W x=x:=by unfold W;rfl
theorem Ru.eq {x y:R} (h:Ru x y):x=y:=by unfold Ru at h;exact h
theorem Ru.of {x y:R} (h:x=y):Ru x y:=by unfold Ru;exact h
theorem Ru.eqW {x y:R} (h:Ru x (W y)):x=y:=h.eq.trans (W_eq y)
theorem Ru.ofW {x y:R} (h:x=y):Ru x (W y):=.of (h.trans (W_eq y).symm)
theorem Ru.rf (x:R):Ru x (W x):=.ofW rfl
theorem Ru.st {x y z:R} (h:x=y) (k:Ru y z):Ru x z:=.of (h.trans k.eq)
theorem Ru.enc (s:St):Ru (some (encI s)) (W (some (encI s))):=.rf _
theorem Ru.bndS {x y:R} {k:St→R} {st:St} (h:Ru x (W (some (encI st)))) (h2:Ru (k st) y):Ru (Go.Abs.bndS x k) y:=.of (Xxh h.eqW h2.eq)
theorem Ru.br {b:Bool} {x y x' y':R} (ht:b=true→Ru x (W x')) (hf:b=false→Ru y (W y')):Ru (Go.Abs.br b x y) (W (bif b then x' else y')):=by
 cases b
 ·exact .ofW ((Wk _ _).trans (hf rfl).eqW)
 ·exact .ofW ((Vn _ _).trans (ht rfl).eqW)
theorem Xua {l:Rows} {i i':Nat} {row:List AV} {k:List AV→R} (h:l[i]?=some row) (e:i'=i):Z6 l i' k=k row:=by subst e;exact Xb4 h
theorem Xsj {l:Rows} {i i':Nat} {row:List AV} {k:List AV→R} (h:i<l.length) (e:i'=i):Z6 (l.set i row) i' k=k row:=by subst e;exact Xt9 h
theorem Xem:∀ {l:Rows} {i j:Nat} {v:AV} {k:Rows→R} {row:List AV},l[i]?=some row→Ve l i j v k=setE row j v fun row'=>k (l.set i row')
 | [],i,j,v,k,row,h=>by simp at h
 | a::l,0,j,v,k,row,h=>by
   simp at h
   subst h
   rfl
 | a::l,i+1,j,v,k,row,h=>by
   rw [Ve,Xem (l:=l) (by simpa using h)]
   rfl
theorem Ru.setA {l:Rows} {i i' j:Nat} {v:AV} {k:Rows→R} {row:List AV} {z:R} (h:l[i]?=some row) (e:i'=i) (hk:Ru (setE row j v fun row'=>k (l.set i row')) z):Ru (Ve l i' j v k) z:=by subst e;exact .st (Xem h) hk
theorem Ru.setS {l:Rows} {i i' j:Nat} {v:AV} {k:Rows→R} {row:List AV} {z:R} (h:i<l.length) (e:i'=i) (hk:Ru (setE row j v fun row'=>k (l.set i row')) z):Ru (Ve (l.set i row) i' j v k) z:=by
 subst e
 refine .st (Xem (row:=row) (by simp [h])) ?_
 simpa only [List.set_set] using hk
theorem Y9 {b:Bool} {x y r:R} (ht:b=true→x=r) (hf:b=false→y=r):(bif b then x else y)=r:=by
 cases b
 ·exact hf rfl
 ·exact ht rfl
theorem Xds {i j:Nat} {p:Path} {sz:Nat} {rows:Rows} {k:Nat→Rows→R}:navR ((i,j)::p) sz rows k=Z6 rows i fun row=>getE row j fun v=>match v with
 | .lst sz' rows'=>navR p sz' rows' k
 | _=>none:=by rw [Xhn];rfl
theorem Xdt {i j:Nat} {p:Path} {rows:Rows} {f:Rows→(Rows→R)→R} {k:Rows→R}:modR ((i,j)::p) rows f k=Z6 rows i fun row=>getE row j fun v=>match v with
 | .lst sz' rows'=>modR p rows' f fun rows''=>Ve rows i j (.lst sz' rows'') k
 | _=>none:=by rw [Xho];rfl
theorem Ru.pos {b:Bool} {x y z:R} (h:b=true) (k:Ru x z):Ru (Go.Abs.br b x y) z:=.st (by rw [h];exact Vn _ _) k
theorem Ru.neg {b:Bool} {x y z:R} (h:b=false) (k:Ru y z):Ru (Go.Abs.br b x y) z:=.st (by rw [h];exact Wk _ _) k
theorem Ru.nt {b:Bool} {x y z:R} (h:b=true) (k:Ru y z):Ru (Go.Abs.br (!b) x y) z:=.st (Xo8 h) k
theorem Ru.nf {b:Bool} {x y z:R} (h:b=false) (k:Ru x z):Ru (Go.Abs.br (!b) x y) z:=.st (Xo9 h) k
theorem Ru.row {l:Rows} {i i':Nat} {row:List AV} {k:List AV→R} {z:R} (h:l[i]?=some row) (e:i'=i) (hk:Ru (k row) z):Ru (Z6 l i' k) z:=.st (Xua h e) hk
theorem Ru.rowS {l:Rows} {i i':Nat} {row:List AV} {k:List AV→R} {z:R} (h:i<l.length) (e:i'=i) (hk:Ru (k row) z):Ru (Z6 (l.set i row) i' k) z:=.st (Xsj h e) hk
theorem Ru.nav {rows:Rows} {i j:Nat} {row:List AV} {p:Path} {sz sz':Nat} {rows':Rows} {k:Nat→Rows→R} {z:R} (h1:rows[i]?=some row) (h2:row[j]?=some (.lst sz' rows')) (hk:Ru (navR p sz' rows' k) z):Ru (navR (((i:Int).toNat,j)::p) sz rows k) z:=.st (Xzt h1 h2) hk
theorem Ru.mod {rows:Rows} {i j:Nat} {row:List AV} {p:Path} {sz':Nat} {rows':Rows} {f:Rows→(Rows→R)→R} {k:Rows→R} {z:R} (h1:rows[i]?=some row) (h2:row[j]?=some (.lst sz' rows')) (hk:Ru (modR p rows' f fun rows''=>Ve rows ((i:Int).toNat) j (.lst sz' rows'') k) z):Ru (modR (((i:Int).toNat,j)::p) rows f k) z:=.st (Xzu h1 h2) hk
theorem Ru.eqS {a b:St} {x z:R} (h:a=b) (hk:Ru x z):Ru (Go.Abs.eqS a b x) z:=by subst h;exact .st (Xly _ _) hk
theorem go {x y r:R} (k:y=r) (h:Ru x (W y):=by (repeat' ((conv=>arg 1;whnf);first | (with_reducible first | apply Ru.st (Vb) | apply Ru.st (V1) | apply Ru.st (Xcb) | apply Ru.st (V2) | apply Ru.st (Qx) | apply Ru.st (Up) | apply Ru.st (Qy) | apply Ru.st (Qz) | apply Ru.st (Xcc) | apply Ru.st (Qv) | apply Ru.st (Qw) | apply Ru.st (Wl) | apply Ru.st (Vc)) | ((with_reducible show Ru (Go.Abs.br _ _ _) _);first | (with_reducible first | apply Ru.st (Vn _ _) | apply Ru.st (Wk _ _) | (apply Ru.pos;assumption) | (apply Ru.neg;assumption) | (apply Ru.nt;assumption) | (apply Ru.nf;assumption)) | refine Ru.st (x1) ?_ | refine Ru.st (x2) ?_ | refine Ru.st (x3) ?_ | refine Ru.st (x4) ?_ | refine Ru.st (x5) ?_ | refine Ru.st (x6) ?_ | refine Ru.st (x7) ?_ | refine Ru.st (x8) ?_ | (with_reducible apply Ru.pos;with_unfolding_all rfl) | (with_reducible apply Ru.neg;with_unfolding_all rfl)) | ((with_reducible show Ru (Go.Abs.bnd _ _) _);with_reducible first | apply Ru.st (Xd fq1) | apply Ru.st (Xd fq2) | apply Ru.st (Xd fq3) | apply Ru.st (Xd fq4) | apply Ru.st (Xd fq5) | apply Ru.st (Xd fq6) | apply Ru.st (Xd fq7) | apply Ru.st (Xd fq8) | apply Ru.st (Xd fq9) | apply Ru.st (Xd fq10) | apply Ru.st (Xd fq11) | apply Ru.st (Xd fq12) | apply Ru.st (Xd fq13) | apply Ru.st (Xd fq14)) | ((with_reducible show Ru (Go.Abs.Z6 _ _ _) _);first | (with_reducible first | (apply Ru.row r0;with_unfolding_all rfl) | (apply Ru.row r1;with_unfolding_all rfl) | (apply Ru.row r2;with_unfolding_all rfl) | (apply Ru.row r3;with_unfolding_all rfl) | (apply Ru.row r4;with_unfolding_all rfl) | (apply Ru.row r5;with_unfolding_all rfl) | (apply Ru.row r6;with_unfolding_all rfl) | (apply Ru.row r7;with_unfolding_all rfl) | (apply Ru.row r8;with_unfolding_all rfl) | (apply Ru.row r9;with_unfolding_all rfl) | (apply Ru.rowS hL;with_unfolding_all rfl) | (apply Ru.rowS hM;with_unfolding_all rfl)) | refine Ru.st (x1) ?_ | refine Ru.st (x2) ?_ | refine Ru.st (x3) ?_ | refine Ru.st (x4) ?_ | refine Ru.st (x5) ?_ | refine Ru.st (x6) ?_ | refine Ru.st (x7) ?_ | refine Ru.st (x8) ?_) | ((with_reducible show Ru (Go.Abs.Ve _ _ _ _ _) _);first | (with_reducible first | (apply Ru.setS hL;with_unfolding_all rfl) | (apply Ru.setS hM;with_unfolding_all rfl) | (apply Ru.setA st1;with_unfolding_all rfl) | (apply Ru.setA st2;with_unfolding_all rfl) | (apply Ru.setA st3;with_unfolding_all rfl) | (apply Ru.setA st4;with_unfolding_all rfl)) | refine Ru.st (x1) ?_ | refine Ru.st (x2) ?_ | refine Ru.st (x3) ?_ | refine Ru.st (x4) ?_ | refine Ru.st (x5) ?_ | refine Ru.st (x6) ?_ | refine Ru.st (x7) ?_ | refine Ru.st (x8) ?_) | (with_reducible first | (apply Ru.nav r0;with_unfolding_all rfl) | (apply Ru.nav r1;with_unfolding_all rfl) | (apply Ru.nav r2;with_unfolding_all rfl) | (apply Ru.nav r3;with_unfolding_all rfl) | (apply Ru.nav r4;with_unfolding_all rfl) | (apply Ru.nav r5;with_unfolding_all rfl) | (apply Ru.nav r6;with_unfolding_all rfl) | (apply Ru.nav r7;with_unfolding_all rfl) | (apply Ru.nav r8;with_unfolding_all rfl) | (apply Ru.nav r9;with_unfolding_all rfl) | (apply Ru.mod r0;with_unfolding_all rfl) | (apply Ru.mod r1;with_unfolding_all rfl) | (apply Ru.mod r2;with_unfolding_all rfl) | (apply Ru.mod r3;with_unfolding_all rfl) | (apply Ru.mod r4;with_unfolding_all rfl) | (apply Ru.mod r5;with_unfolding_all rfl) | (apply Ru.mod r6;with_unfolding_all rfl) | (apply Ru.mod r7;with_unfolding_all rfl) | (apply Ru.mod r8;with_unfolding_all rfl) | (apply Ru.mod r9;with_unfolding_all rfl) | apply Ru.st (Qb _ _ _) | apply Ru.st (Qc _ _ _) | apply Ru.st (Xds) | apply Ru.st (Xdt)) | refine Ru.st (x1) ?_ | refine Ru.st (x2) ?_ | refine Ru.st (x3) ?_ | refine Ru.st (x4) ?_ | refine Ru.st (x5) ?_ | refine Ru.st (x6) ?_ | refine Ru.st (x7) ?_ | refine Ru.st (x8) ?_));all_goals (try ((try (conv=>arg 1;whnf));exact Ru.rf _))):x=r:=h.eqW.trans k
theorem goS {x y r:R} (k:y=r) (h:Ru x (W y):=by (repeat' ((conv=>arg 1;whnf);first | (with_reducible first | apply Ru.st (Vb) | apply Ru.st (V1) | apply Ru.st (Xcb) | apply Ru.st (V2) | apply Ru.st (Qx) | apply Ru.st (Up) | apply Ru.st (Qy) | apply Ru.st (Qz) | apply Ru.st (Xcc) | apply Ru.st (Qv) | apply Ru.st (Qw) | apply Ru.st (Wl) | apply Ru.st (Vc)) | ((with_reducible show Ru (Go.Abs.br _ _ _) _);first | (with_reducible first | apply Ru.st (Vn _ _) | apply Ru.st (Wk _ _) | (apply Ru.pos;assumption) | (apply Ru.neg;assumption) | (apply Ru.nt;assumption) | (apply Ru.nf;assumption)) | refine Ru.st (x1) ?_ | refine Ru.st (x2) ?_ | refine Ru.st (x3) ?_ | refine Ru.st (x4) ?_ | refine Ru.st (x5) ?_ | refine Ru.st (x6) ?_ | refine Ru.st (x7) ?_ | refine Ru.st (x8) ?_ | (with_reducible apply Ru.pos;with_unfolding_all rfl) | (with_reducible apply Ru.neg;with_unfolding_all rfl) | apply Ru.br (fun _=>?_) (fun _=>?_)) | ((with_reducible show Ru (Go.Abs.bnd _ _) _);with_reducible first | apply Ru.st (Xd fq1) | apply Ru.st (Xd fq2) | apply Ru.st (Xd fq3) | apply Ru.st (Xd fq4) | apply Ru.st (Xd fq5) | apply Ru.st (Xd fq6) | apply Ru.st (Xd fq7) | apply Ru.st (Xd fq8) | apply Ru.st (Xd fq9) | apply Ru.st (Xd fq10) | apply Ru.st (Xd fq11) | apply Ru.st (Xd fq12) | apply Ru.st (Xd fq13) | apply Ru.st (Xd fq14)) | ((with_reducible show Ru (Go.Abs.Z6 _ _ _) _);first | (with_reducible first | (apply Ru.row r0;with_unfolding_all rfl) | (apply Ru.row r1;with_unfolding_all rfl) | (apply Ru.row r2;with_unfolding_all rfl) | (apply Ru.row r3;with_unfolding_all rfl) | (apply Ru.row r4;with_unfolding_all rfl) | (apply Ru.row r5;with_unfolding_all rfl) | (apply Ru.row r6;with_unfolding_all rfl) | (apply Ru.row r7;with_unfolding_all rfl) | (apply Ru.row r8;with_unfolding_all rfl) | (apply Ru.row r9;with_unfolding_all rfl) | (apply Ru.rowS hL;with_unfolding_all rfl) | (apply Ru.rowS hM;with_unfolding_all rfl)) | refine Ru.st (x1) ?_ | refine Ru.st (x2) ?_ | refine Ru.st (x3) ?_ | refine Ru.st (x4) ?_ | refine Ru.st (x5) ?_ | refine Ru.st (x6) ?_ | refine Ru.st (x7) ?_ | refine Ru.st (x8) ?_) | ((with_reducible show Ru (Go.Abs.Ve _ _ _ _ _) _);first | (with_reducible first | (apply Ru.setS hL;with_unfolding_all rfl) | (apply Ru.setS hM;with_unfolding_all rfl) | (apply Ru.setA st1;with_unfolding_all rfl) | (apply Ru.setA st2;with_unfolding_all rfl) | (apply Ru.setA st3;with_unfolding_all rfl) | (apply Ru.setA st4;with_unfolding_all rfl)) | refine Ru.st (x1) ?_ | refine Ru.st (x2) ?_ | refine Ru.st (x3) ?_ | refine Ru.st (x4) ?_ | refine Ru.st (x5) ?_ | refine Ru.st (x6) ?_ | refine Ru.st (x7) ?_ | refine Ru.st (x8) ?_) | (with_reducible first | (apply Ru.nav r0;with_unfolding_all rfl) | (apply Ru.nav r1;with_unfolding_all rfl) | (apply Ru.nav r2;with_unfolding_all rfl) | (apply Ru.nav r3;with_unfolding_all rfl) | (apply Ru.nav r4;with_unfolding_all rfl) | (apply Ru.nav r5;with_unfolding_all rfl) | (apply Ru.nav r6;with_unfolding_all rfl) | (apply Ru.nav r7;with_unfolding_all rfl) | (apply Ru.nav r8;with_unfolding_all rfl) | (apply Ru.nav r9;with_unfolding_all rfl) | (apply Ru.mod r0;with_unfolding_all rfl) | (apply Ru.mod r1;with_unfolding_all rfl) | (apply Ru.mod r2;with_unfolding_all rfl) | (apply Ru.mod r3;with_unfolding_all rfl) | (apply Ru.mod r4;with_unfolding_all rfl) | (apply Ru.mod r5;with_unfolding_all rfl) | (apply Ru.mod r6;with_unfolding_all rfl) | (apply Ru.mod r7;with_unfolding_all rfl) | (apply Ru.mod r8;with_unfolding_all rfl) | (apply Ru.mod r9;with_unfolding_all rfl) | apply Ru.st (Qb _ _ _) | apply Ru.st (Qc _ _ _) | apply Ru.st (Xds) | apply Ru.st (Xdt)) | refine Ru.st (x1) ?_ | refine Ru.st (x2) ?_ | refine Ru.st (x3) ?_ | refine Ru.st (x4) ?_ | refine Ru.st (x5) ?_ | refine Ru.st (x6) ?_ | refine Ru.st (x7) ?_ | refine Ru.st (x8) ?_));all_goals (try ((try (conv=>arg 1;whnf));exact Ru.rf _))):x=r:=h.eqW.trans k
theorem goD {x y r:R} (k:y=r) (h:Ru x (W y):=by (repeat' ((conv=>arg 1;whnf);first | ((with_reducible show Ru (Go.Abs.bndS _ _) _);with_reducible apply Ru.bndS) | ((with_reducible show Ru (some _) _);with_reducible exact Ru.enc _) | (with_reducible apply Ru.eqS;rfl) | with_reducible apply Ru.st (Xjg _ _ _ _ _ _) | with_reducible apply Ru.st (Xlz _ _ _ _ _ _) | with_reducible apply Ru.st (Xl0 _ _ _ _ _ _ _ _ _ _) | with_reducible apply Ru.st (Xl1 _ _ _ _ _ _ _ _) | with_reducible apply Ru.st (Xq9 _ _ _ _ _ _ _ _) | (with_reducible first | apply Ru.st (Vb) | apply Ru.st (V1) | apply Ru.st (Xcb) | apply Ru.st (V2) | apply Ru.st (Qx) | apply Ru.st (Up) | apply Ru.st (Qy) | apply Ru.st (Qz) | apply Ru.st (Xcc) | apply Ru.st (Qv) | apply Ru.st (Qw) | apply Ru.st (Wl) | apply Ru.st (Vc)) | ((with_reducible show Ru (Go.Abs.br _ _ _) _);first | (with_reducible first | apply Ru.st (Vn _ _) | apply Ru.st (Wk _ _) | (apply Ru.pos;assumption) | (apply Ru.neg;assumption) | (apply Ru.nt;assumption) | (apply Ru.nf;assumption)) | refine Ru.st (x1) ?_ | refine Ru.st (x2) ?_ | refine Ru.st (x3) ?_ | refine Ru.st (x4) ?_ | refine Ru.st (x5) ?_ | refine Ru.st (x6) ?_ | refine Ru.st (x7) ?_ | refine Ru.st (x8) ?_ | (with_reducible apply Ru.pos;with_unfolding_all rfl) | (with_reducible apply Ru.neg;with_unfolding_all rfl)) | ((with_reducible show Ru (Go.Abs.bnd _ _) _);with_reducible first | apply Ru.st (Xd fq1) | apply Ru.st (Xd fq2) | apply Ru.st (Xd fq3) | apply Ru.st (Xd fq4) | apply Ru.st (Xd fq5) | apply Ru.st (Xd fq6) | apply Ru.st (Xd fq7) | apply Ru.st (Xd fq8) | apply Ru.st (Xd fq9) | apply Ru.st (Xd fq10) | apply Ru.st (Xd fq11) | apply Ru.st (Xd fq12) | apply Ru.st (Xd fq13) | apply Ru.st (Xd fq14)) | ((with_reducible show Ru (Go.Abs.Z6 _ _ _) _);first | (with_reducible first | (apply Ru.row r0;with_unfolding_all rfl) | (apply Ru.row r1;with_unfolding_all rfl) | (apply Ru.row r2;with_unfolding_all rfl) | (apply Ru.row r3;with_unfolding_all rfl) | (apply Ru.row r4;with_unfolding_all rfl) | (apply Ru.row r5;with_unfolding_all rfl) | (apply Ru.row r6;with_unfolding_all rfl) | (apply Ru.row r7;with_unfolding_all rfl) | (apply Ru.row r8;with_unfolding_all rfl) | (apply Ru.row r9;with_unfolding_all rfl) | (apply Ru.rowS hL;with_unfolding_all rfl) | (apply Ru.rowS hM;with_unfolding_all rfl)) | refine Ru.st (x1) ?_ | refine Ru.st (x2) ?_ | refine Ru.st (x3) ?_ | refine Ru.st (x4) ?_ | refine Ru.st (x5) ?_ | refine Ru.st (x6) ?_ | refine Ru.st (x7) ?_ | refine Ru.st (x8) ?_) | ((with_reducible show Ru (Go.Abs.Ve _ _ _ _ _) _);first | (with_reducible first | (apply Ru.setS hL;with_unfolding_all rfl) | (apply Ru.setS hM;with_unfolding_all rfl) | (apply Ru.setA st1;with_unfolding_all rfl) | (apply Ru.setA st2;with_unfolding_all rfl) | (apply Ru.setA st3;with_unfolding_all rfl) | (apply Ru.setA st4;with_unfolding_all rfl)) | refine Ru.st (x1) ?_ | refine Ru.st (x2) ?_ | refine Ru.st (x3) ?_ | refine Ru.st (x4) ?_ | refine Ru.st (x5) ?_ | refine Ru.st (x6) ?_ | refine Ru.st (x7) ?_ | refine Ru.st (x8) ?_) | (with_reducible first | (apply Ru.nav r0;with_unfolding_all rfl) | (apply Ru.nav r1;with_unfolding_all rfl) | (apply Ru.nav r2;with_unfolding_all rfl) | (apply Ru.nav r3;with_unfolding_all rfl) | (apply Ru.nav r4;with_unfolding_all rfl) | (apply Ru.nav r5;with_unfolding_all rfl) | (apply Ru.nav r6;with_unfolding_all rfl) | (apply Ru.nav r7;with_unfolding_all rfl) | (apply Ru.nav r8;with_unfolding_all rfl) | (apply Ru.nav r9;with_unfolding_all rfl) | (apply Ru.mod r0;with_unfolding_all rfl) | (apply Ru.mod r1;with_unfolding_all rfl) | (apply Ru.mod r2;with_unfolding_all rfl) | (apply Ru.mod r3;with_unfolding_all rfl) | (apply Ru.mod r4;with_unfolding_all rfl) | (apply Ru.mod r5;with_unfolding_all rfl) | (apply Ru.mod r6;with_unfolding_all rfl) | (apply Ru.mod r7;with_unfolding_all rfl) | (apply Ru.mod r8;with_unfolding_all rfl) | (apply Ru.mod r9;with_unfolding_all rfl) | apply Ru.st (Qb _ _ _) | apply Ru.st (Qc _ _ _) | apply Ru.st (Xds) | apply Ru.st (Xdt)) | refine Ru.st (x1) ?_ | refine Ru.st (x2) ?_ | refine Ru.st (x3) ?_ | refine Ru.st (x4) ?_ | refine Ru.st (x5) ?_ | refine Ru.st (x6) ?_ | refine Ru.st (x7) ?_ | refine Ru.st (x8) ?_));all_goals (try ((try (conv=>arg 1;whnf));exact Ru.rf _))):x=r:=h.eqW.trans k
end Go.Abs
