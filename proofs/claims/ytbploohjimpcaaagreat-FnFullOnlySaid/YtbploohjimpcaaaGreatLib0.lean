/- What the program's functions answer (Lib0): no condition. -/
import Derived.Calls
import Derived.Laws.IdiomCopy
import Derived.Laws.Append
import Derived.Laws.Entries
set_option linter.unusedVariables false
set_option linter.unusedSimpArgs false
namespace Go.Abs
noncomputable section
abbrev Path:=List (Nat×Nat)
inductive AV where
 | bool (b:Bool)
 | int (k:IntKind) (n:Int)
 | str (s:ByteArray)
 | nilp
 | nilf
 | emp
 | undef
 | ptr (r:Nat) (p:Path) (i j:Nat)
 | ref (r:Nat) (p:Path)
 | sub (r:Nat) (p:Path) (off len:Nat)
 | lst (sz:Nat) (rows:List (List AV))
 | pv (row:List AV)
 | fn (f:FuncId) (cap:List AV)
 | agg (cs:List AV)
 | tup (vs:List AV)
 deriving Inhabited
abbrev Rows:=List (List AV)
structure Root where
 ro:Bool
 virt:Bool
 box:Bool
 sz:Nat
 rows:Rows
 deriving Inhabited
abbrev Heap:=List (Option Root)
structure St where
 env:List AV
 stk:List (List AV)
 heap:Heap
 deriving Inhabited
structure Res where
 val:AV
 out:List AV
abbrev R:=Option Res
inductive Shape where
 | bool | int (k:IntKind) | str | ptr (e:TypeId) | slice (e:TypeId) | func | struct (fs:List (Nat×TypeId)) | other
structure TInfo where
 shape:Shape
 size:Nat
 bytes:Nat
 zero:List AV
structure Cfg where
 ty:List (TypeId×TInfo)
 fn:List (FuncId×Func)
 mode:FuncId→Nat
 own:FuncId→Bool
 live:FuncId→Nat→List Nat
 fuel:Nat
 eqs:List (TypeId×Nat)
 ext:FuncId→Option (List AV→R)
 calm:FuncId→Nat→Bool
 ioT:FuncId→TypeId
 pad:FuncId→Nat→Bool:=fun _ _=>false
 mv:List TypeId:=[]
theorem Xxu:∃ f:Bool→R→R→R,∀ x y,f true x y=x∧f false x y=y:=⟨fun b x y=>if b then x else y,fun _ _=>⟨rfl,rfl⟩⟩
theorem Xs6:∃ f:R→(Res→R)→R,(∀ v k,f (some v) k=k v)∧∀ k,f none k=none:=⟨fun x k=>x.bind k,fun _ _=>rfl,fun _=>rfl⟩
@[irreducible] noncomputable def br:Bool→R→R→R:=Classical.choose Xxu
@[irreducible] noncomputable def both (x y:R):R:=open Classical in if x=y then x else none
@[irreducible] noncomputable def bnd:R→(Res→R)→R:=Classical.choose Xs6
theorem Vn (x y:R):br true x y=x:=by unfold br;exact (Classical.choose_spec Xxu x y).1
theorem Wk (x y:R):br false x y=y:=by unfold br;exact (Classical.choose_spec Xxu x y).2
theorem Xez (v:Res) (k:Res→R):bnd (some v) k=k v:=by unfold bnd;exact (Classical.choose_spec Xs6).1 v k
theorem Xq4 (k:Res→R):bnd none k=none:=by unfold bnd;exact (Classical.choose_spec Xs6).2 k
theorem Xwn (x:R):both x x=x:=by unfold both;rw [if_pos rfl]
theorem Xld {x y r:R} (hx:x=r) (hy:y=r):both x y=r:=by rw [hx,hy,Xwn]
def getE:List AV→Nat→(AV→R)→R
 | [],_,_=>none
 | a::_,0,k=>k a
 | _::l,n+1,k=>getE l n k
def setE:List AV→Nat→AV→(List AV→R)→R
 | [],_,_,_=>none
 | _::l,0,v,k=>k (v::l)
 | a::l,n+1,v,k=>setE l n v fun l'=>k (a::l')
def Z6:Rows→Nat→(List AV→R)→R
 | [],_,_=>none
 | a::_,0,k=>k a
 | _::l,n+1,k=>Z6 l n k
def Ve:Rows→Nat→Nat→AV→(Rows→R)→R
 | [],_,_,_,_=>none
 | a::l,0,j,v,k=>setE a j v fun a'=>k (a'::l)
 | a::l,i+1,j,v,k=>Ve l i j v fun l'=>k (a::l')
def getH:Heap→Nat→(Root→R)→R
 | [],_,_=>none
 | a::_,0,k=>match a with | some x=>k x | none=>none
 | _::l,n+1,k=>getH l n k
def setH:Heap→Nat→Option Root→(Heap→R)→R
 | [],0,v,k=>k [v]
 | [],n+1,v,k=>setH [] n v fun l'=>k (none::l')
 | _::l,0,v,k=>k (v::l)
 | a::l,n+1,v,k=>setH l n v fun l'=>k (a::l')
def lenH:Heap→(Nat→R)→R
 | [],k=>k 0
 | _::l,k=>lenH l fun n=>k (n+1)
def snoc:Path→Nat→Nat→(Path→R)→R
 | [],i,j,k=>k [(i,j)]
 | a::p,i,j,k=>snoc p i j fun p'=>k (a::p')
def cut:Nat→List AV→(List AV→List AV→R)→R
 | 0,l,k=>k [] l
 | _+1,[],_=>none
 | n+1,a::l,k=>cut n l fun x y=>k (a::x) y
def cat:List AV→List AV→(List AV→R)→R
 | [],l,k=>k l
 | a::x,l,k=>cat x l fun y=>k (a::y)
def undefs:Nat→(List AV→R)→R
 | 0,k=>k []
 | n+1,k=>undefs n fun l=>k (.undef::l)
def Xur:List AV→Nat→List AV→(List AV→R)→R
 | row,_,[],k=>k row
 | row,j,v::vs,k=>setE row j v fun row=>Xur row (j+1) vs k
def Xdm:Path→Nat→Rows→(Nat→Rows→R)→R
 | [],sz,rows,k=>k sz rows
 | (i,j)::p,_,rows,k=>Z6 rows i fun row=>getE row j fun v=>match v with
   | .lst sz rows=>Xdm p sz rows k
   | _=>none
theorem Xus:∃ f,f=Xdm:=⟨_,rfl⟩
@[irreducible] noncomputable def navR:Path→Nat→Rows→(Nat→Rows→R)→R:=Classical.choose Xus
theorem Xhn:navR=Xdm:=by unfold navR;exact Classical.choose_spec Xus
def navT (p:Path) (sz:Nat) (rows:Rows) (k:Nat→Rows→R):R:=match p with
 | []=>k sz rows
 | (i,j)::p=>Z6 rows i fun row=>getE row j fun v=>match v with
   | .lst sz rows=>(match p with
     | []=>k sz rows
     | q::p=>navR (q::p) sz rows k)
   | _=>none
theorem Xpn (p:Path) (sz:Nat) (rows:Rows) (k:Nat→Rows→R):navT p sz rows k=Xdm p sz rows k:=by
 cases p with
 | nil=>rfl
 | cons q p=>cases p with
   | nil=>rfl
   | cons q' p=>unfold navT;rw [Xhn];rfl
def nav (h:Heap) (r:Nat) (p:Path) (k:Root→Nat→Rows→R):R :=
 getH h r fun x=>navT p x.sz x.rows (k x)
def Xn7:Path→Rows→(Rows→(Rows→R)→R)→(Rows→R)→R
 | [],rows,f,k=>f rows k
 | (i,j)::p,rows,f,k=>Z6 rows i fun row=>getE row j fun v=>match v with
   | .lst sz rows'=>Xn7 p rows' f fun rows''=>Ve rows i j (.lst sz rows'') k
   | _=>none
theorem Xut:∃ f,f=Xn7:=⟨_,rfl⟩
@[irreducible] noncomputable def modR:Path→Rows→(Rows→(Rows→R)→R)→(Rows→R)→R:=Classical.choose Xut
theorem Xho:modR=Xn7:=by unfold modR;exact Classical.choose_spec Xut
def modT (p:Path) (rows:Rows) (f:Rows→(Rows→R)→R) (k:Rows→R):R:=match p with
 | []=>f rows k
 | (i,j)::p=>Z6 rows i fun row=>getE row j fun v=>match v with
   | .lst sz rows'=>(match p with
     | []=>f rows' fun rows''=>Ve rows i j (.lst sz rows'') k
     | q::p=>modR (q::p) rows' f fun rows''=>Ve rows i j (.lst sz rows'') k)
   | _=>none
theorem X01 (p:Path) (rows:Rows) (f:Rows→(Rows→R)→R) (k:Rows→R):modT p rows f k=Xn7 p rows f k:=by
 cases p with
 | nil=>rfl
 | cons q p=>cases p with
   | nil=>rfl
   | cons q' p=>unfold modT;rw [Xho];rfl
def modH (h:Heap) (r:Nat) (p:Path) (f:Rows→(Rows→R)→R) (k:Heap→R):R :=
 getH h r fun x=>match x with
  | ⟨ro,virt,box,sz,rows⟩=>modT p rows f fun rows'=>setH h r (some ⟨ro,virt,box,sz,rows'⟩) k
def pre:List Nat→Path→Bool
 | [],_=>true
 | _::_,[]=>false
 | j::c,(_,j')::p=>if j=j' then pre c p else false
def kv0 (r:Nat) (c:List Nat) (v:AV) (k:AV→R):R:=match v with
 | .ref r' p=>if r'=r then (match pre c p with | true=>k .undef | false=>k v) else k v
 | .sub r' p _ _=>if r'=r then (match pre c p with | true=>k .undef | false=>k v) else k v
 | .ptr r' p _ _=>if r'=r then (match pre c p with | true=>k .undef | false=>k v) else k v
 | .agg _=>k .undef
 | .tup _=>k .undef
 | .fn _ _=>k .undef
 | v=>k v
def kl0 (r:Nat) (c:List Nat):List AV→(List AV→R)→R
 | [],k=>k []
 | v::l,k=>kv0 r c v fun v=>kl0 r c l fun l=>k (v::l)
def kv1 (r:Nat) (c:List Nat) (v:AV) (k:AV→R):R:=match v with
 | .agg cs=>kl0 r c cs fun cs=>k (.agg cs)
 | .fn f cs=>kl0 r c cs fun cs=>k (.fn f cs)
 | v=>kv0 r c v k
def kl1 (r:Nat) (c:List Nat):List AV→(List AV→R)→R
 | [],k=>k []
 | v::l,k=>kv1 r c v fun v=>kl1 r c l fun l=>k (v::l)
def kv2 (r:Nat) (c:List Nat) (v:AV) (k:AV→R):R:=match v with
 | .tup cs=>kl1 r c cs fun cs=>k (.tup cs)
 | v=>kv1 r c v k
def kl2 (r:Nat) (c:List Nat):List AV→(List AV→R)→R
 | [],k=>k []
 | v::l,k=>kv2 r c v fun v=>kl2 r c l fun l=>k (v::l)
def Xuu (r:Nat) (c:List Nat):Rows→(Rows→R)→R
 | [],k=>k []
 | v::l,k=>kl1 r c v fun v=>Xuu r c l fun l=>k (v::l)
def Xuv (r:Nat) (c:List Nat):Heap→(Heap→R)→R
 | [],k=>k []
 | a::h,k=>Xuv r c h fun h=>match a with
   | none=>k (none::h)
   | some ⟨ro,virt,box,sz,rows⟩=>match box with
     | true=>Xuu r c rows fun rows=>k (some ⟨ro,virt,true,sz,rows⟩::h)
     | false=>k (some ⟨ro,virt,false,sz,rows⟩::h)
def kstk (r:Nat) (c:List Nat):List (List AV)→(List (List AV)→R)→R
 | [],k=>k []
 | e::l,k=>kl2 r c e fun e=>kstk r c l fun l=>k (e::l)
def kill (r:Nat) (c:List Nat) (st:St) (k:St→R):R:=match st with
 | ⟨e,s,h⟩=>kl2 r c e fun e=>kstk r c s fun s=>Xuv r c h fun h=>k ⟨e,s,h⟩
def cols:Path→(List Nat→R)→R
 | [],k=>k []
 | (_,j)::p,k=>cols p fun c=>k (j::c)
def Xle:Path→Nat→(List Nat→R)→R
 | [],j,k=>k [j]
 | (_,j')::p,j,k=>Xle p j fun c=>k (j'::c)
def Xgq:Nat→List AV→(List AV→R)→R
 | 0,l,k=>k l
 | n+1,_::l,k=>Xgq n l k
 | _+1,[],_=>none
def Qs (r:Nat) (p:Path) (i j:Nat) (v:AV) (k:AV→R):R:=match v with
 | .lst _ _=>snoc p i j fun p'=>k (.ref r p')
 | .bool b=>k (.bool b)
 | .int kd n=>k (.int kd n)
 | .str s=>k (.str s)
 | .nilp=>k .nilp
 | .nilf=>k .nilf
 | .ptr a b c d=>k (.ptr a b c d)
 | .ref a b=>k (.ref a b)
 | .sub a b c d=>k (.sub a b c d)
 | .fn f c=>k (.fn f c)
 | _=>none
def Xe0 (r:Nat) (p:Path) (i:Nat):Nat→Nat→List AV→(List AV→R)→R
 | 0,_,_,k=>k []
 | n+1,j,v::l,k=>Qs r p i j v fun v'=>Xe0 r p i n (j+1) l fun vs=>k (v'::vs)
 | _+1,_,[],_=>none
def tyK:List (TypeId×TInfo)→TypeId→(TInfo→R)→R
 | [],_,_=>none
 | (t',x)::l,t,k=>if t'=t then k x else tyK l t k
def U4 (cfg:Cfg) (t:TypeId) (h:Heap) (a:AV) (k:AV→R):R:=match a with
 | .ptr r p i j=>nav h r p fun _ _ rows=>Z6 rows i fun row=>Xgq j row fun row'=>tyK cfg.ty t fun x=>match x.shape with
   | .struct _=>Xe0 r p i x.size j row' fun vs=>k (.agg vs)
   | _=>match row' with
     | v::_=>Qs r p i j v k
     | []=>none
 | _=>none
def Xn8:Path→Rows→(Nat→Rows→Rows→R)→R
 | [],_,_=>none
 | [(i,j)],rows,k=>Z6 rows i fun row=>getE row j fun v=>match v with
   | .lst sz t=>Ve rows i j .undef fun rows'=>k sz t rows'
   | _=>none
 | (i,j)::q::p,rows,k=>Z6 rows i fun row=>getE row j fun v=>match v with
   | .lst sz rows1=>Xn8 (q::p) rows1 fun sz' t rows1'=>Ve rows i j (.lst sz rows1') fun rows'=>k sz' t rows'
   | _=>none
def Xeq (st:St) (r:Nat) (p:Path) (k:Nat→Rows→St→R):R :=
 getH st.heap r fun x=>match x with
 | ⟨ro,virt,box,sz,rows⟩=>match ro with
   | true=>none
   | false=>match p with
     | []=>match virt with
       | true=>none
       | false=>match box with
         | true=>none
         | false=>setH st.heap r none fun h=>kill r [] ⟨st.env,st.stk,h⟩ fun st=>k sz rows st
     | q::p=>Xn8 (q::p) rows fun sz' t rows'=>setH st.heap r (some ⟨ro,virt,box,sz,rows'⟩) fun h =>
      cols (q::p) fun c=>kill r c ⟨st.env,st.stk,h⟩ fun st=>k sz' t st
def code (h:Heap) (v:AV) (k:Nat→R):R:=match v with
 | .ref r p=>getH h r fun x=>match x with
   | ⟨ro,virt,_,_,_⟩=>match ro with
     | true=>k 0
     | false=>match p with
       | []=>k 1
       | _::_=>match virt with
         | true=>k 1
         | false=>k 2
 | .sub r p _ _=>getH h r fun x=>match x with
   | ⟨ro,virt,_,_,_⟩=>match ro with
     | true=>k 0
     | false=>match p with
       | []=>k 1
       | _::_=>match virt with
         | true=>k 1
         | false=>k 2
 | .ptr _ _ _ _=>k 2
 | .fn _ _=>k 2
 | _=>k 0
def Xb8 (h:Heap):List AV→(Bool→R)→R
 | [],k=>k false
 | v::l,k=>code h v fun n=>match n with
   | 0=>Xb8 h l k
   | 1=>Xb8 h l k
   | _=>k true
def Xb9 (al ex:Bool) (esz:Nat) (v:AV) (st:St) (k:AV→St→R):R:=match v with
 | .bool b=>k (.bool b) st
 | .int kd n=>k (.int kd n) st
 | .str s=>k (.str s) st
 | .nilp=>k .nilp st
 | .nilf=>k .nilf st
 | .lst sz rows=>match rows with
   | []=>k (.lst sz []) st
   | _=>none
 | .emp=>k (.lst esz []) st
 | .ptr a b c d=>match al,ex with | true,true=>k (.ptr a b c d) st | _,_=>none
 | .fn f c=>match al,ex with | true,true=>k (.fn f c) st | _,_=>none
 | .ref r p=>code st.heap (.ref r p) fun m=>match m with
   | 0=>match ex with | true=>k (.ref r p) st | false=>none
   | 1=>match al with
     | true=>none
     | false=>Xeq st r p fun sz rows st=>k (.lst sz rows) st
   | _=>match al with
     | true=>match ex with | true=>k (.ref r p) st | false=>none
     | false=>Xeq st r p fun sz rows st=>k (.lst sz rows) st
 | .sub r p off len=>code st.heap (.sub r p off len) fun m=>match m with
   | 0=>match ex with | true=>k (.sub r p off len) st | false=>none
   | 1=>match al with
     | true=>none
     | false=>Xeq st r p fun sz rows st=>k (.lst sz ((rows.drop off).take len)) st
   | _=>match al with
     | true=>match ex with | true=>k (.sub r p off len) st | false=>none
     | false=>Xeq st r p fun sz rows st=>k (.lst sz ((rows.drop off).take len)) st
 | _=>none
def U9 (al ex:Bool) (esz:Nat):List AV→St→(List AV→St→R)→R
 | [],st,k=>k [] st
 | v::l,st,k=>Xb9 al ex esz v st fun v' st=>U9 al ex esz l st fun l' st=>k (v'::l') st
def mvT:List TypeId→TypeId→Bool
 | [],_=>false
 | t'::l,t=>if t'=t then true else mvT l t
def Xd6 (mv ex:Bool) (esz:Nat) (vs:List AV) (st:St) (k:List AV→St→R):R:=match ex with
 | false=>U9 false false esz vs st k
 | true=>match mv with
   | true=>U9 false true esz vs st k
   | false=>Xb8 st.heap vs fun al=>match al with
     | true=>U9 true true esz vs st k
     | false=>U9 false true esz vs st k
def Xgr:Nat→List AV→Bool
 | 0,[]=>true
 | n+1,_::l=>Xgr n l
 | _,_=>false
def Xd7 (n:Nat) (v:AV) (k:List AV→R):R:=match v with
 | .agg cs=>match Xgr n cs with
   | true=>k cs
   | false=>none
 | .undef=>none
 | .pv _=>none
 | v=>match n with
   | 1=>k [v]
   | _=>none
def U6 (cfg:Cfg) (t:TypeId) (k:Nat→R):R:=tyK cfg.ty t fun x=>match x.shape with
 | .slice e=>tyK cfg.ty e fun y=>k y.size
 | _=>k 0
def Xe1 (cfg:Cfg) (t:TypeId) (k:Nat→R):R:=tyK cfg.ty t fun x=>match x.shape with
 | .slice e=>tyK cfg.ty e fun y=>k y.size
 | _=>none
def setCells:Rows→Nat→Nat→List AV→(Rows→R)→R
 | rows,_,_,[],k=>k rows
 | rows,i,j,v::vs,k=>Ve rows i j v fun rows=>setCells rows i (j+1) vs k
def isSl (v:AV):Bool:=match v with
 | .lst _ _ | .ref _ _ | .sub _ _ _ _=>true
 | _=>false
def past (r:Nat) (c:List Nat):List AV→Bool
 | []=>true
 | v::l=>match v with
   | .ref r' p=>if r'=r then (match pre c p with | true=>false | false=>past r c l) else past r c l
   | .sub r' p _ _=>if r'=r then (match pre c p with | true=>false | false=>past r c l) else past r c l
   | .ptr r' p _ _=>if r'=r then (match pre c p with | true=>false | false=>past r c l) else past r c l
   | .fn _ _=>false
   | _=>past r c l
def Wt (r:Nat) (p:Path) (i:Nat):Nat→List AV→St→(St→R)→R
 | _,[],st,k=>k st
 | j,v::vs,st,k=>match isSl v with
   | true=>Xle p j fun c=>match past r c (v::vs) with
     | true=>kill r c st fun st=>modH st.heap r p (fun rows k=>Ve rows i j v k) fun h=>Wt r p i (j+1) vs ⟨st.env,st.stk,h⟩ k
     | false=>none
   | false=>modH st.heap r p (fun rows k=>Z6 rows i fun row=>getE row j fun old=>match old with
     | .lst _ _=>none
     | _=>Ve rows i j v k) fun h=>Wt r p i (j+1) vs ⟨st.env,st.stk,h⟩ k
def Qt:Path→Path→Nat→Nat→Bool
 | [],[(i',j')],i,j=>i'==i&&j'==j
 | (i,j)::p,(i',j')::p',a,b=>i==i'&&j==j'&&Qt p p' a b
 | _,_,_,_=>false
def Xs7 (cfg:Cfg) (t:TypeId) (st:St) (a v:AV) (k:St→R):R:=match a with
 | .ptr r p i j=>tyK cfg.ty t fun ti=>Xd7 ti.size v fun vs=>U6 cfg t fun esz=>getH st.heap r fun x=>match x with
   | ⟨ro,virt,box,_,_⟩=>match ro with
     | true=>none
     | false=>match box,virt,p with
       | true,false,[]=>Xd6 (mvT cfg.mv t) true esz vs st fun cs st=>Wt r [] i j cs st k
       | _,_,_=>match v with
         | .sub r' p' off len=>if r'=r then
          br (Qt p p' i j) (Xeq st r' p' fun sz rows st=>Wt r p i j [.lst sz ((rows.drop off).take len)] st k) none
           else Xd6 false false esz vs st fun cs st=>Wt r p i j cs st k
         | _=>Xd6 false false esz vs st fun cs st=>Wt r p i j cs st k
 | _=>none
end
end Go.Abs
namespace Go.Abs
noncomputable section
def putD (st:St) (d:Option Tmp) (v:AV) (k:St→R):R:=match d with
 | some t=>match st with | ⟨e,s,h⟩=>setE e t v fun e=>k ⟨e,s,h⟩
 | none=>k st
def opnd (e:List AV) (o:Operand) (k:AV→R):R:=match o with
 | .tmp t=>getE e t k
 | .const v=>match v with
   | .int kd n=>k (.int kd n)
   | .bool b=>k (.bool b)
   | .string s=>k (.str s)
   | .pointer none=>k .nilp
   | .nilFunc=>k .nilf
   | .slice none 0 0=>k .emp
   | _=>none
 | .func f=>k (.fn f [])
 | .global _=>none
def Xbo (e:List AV):List Operand→(List AV→R)→R
 | [],k=>k []
 | o::os,k=>opnd e o fun v=>Xbo e os fun vs=>k (v::vs)
def Xuw:Heap→Nat→R→R
 | [],_,k=>k
 | a::_,0,k=>match a with
   | none=>k
   | some _=>none
 | _::l,n+1,k=>Xuw l n k
def V0 (st:St) (slot:Nat) (x:Root) (k:St→R):R:=match st with
 | ⟨e,s,h⟩=>Xuw h slot (setH h slot (some x) fun h=>k ⟨e,s,h⟩)
def Xpo (cfg:Cfg) (t:TypeId) (slot:Nat) (v:AV) (st:St) (k:AV→St→R):R:=match v with
 | .emp=>U6 cfg t fun esz=>V0 st slot ⟨false,false,false,esz,[]⟩ fun st=>k (.ref slot []) st
 | v=>k v st
def Xux (op:BinOp) (kd:IntKind) (a b:Int) (k:AV→R):R:=match op with
 | .add=>k (.int kd (kd.wrap (a+b)))
 | .sub=>k (.int kd (kd.wrap (a - b)))
 | .mul=>k (.int kd (kd.wrap (a*b)))
 | .quo=>br (decide (b=0)) none (k (.int kd (kd.wrap (a.tdiv b))))
 | .rem=>br (decide (b=0)) none (k (.int kd (a.tmod b)))
 | .and=>k (.int kd (kd.wrap (BitVec.ofInt kd.bits a &&& BitVec.ofInt kd.bits b).toNat))
 | .or=>k (.int kd (kd.wrap (BitVec.ofInt kd.bits a ||| BitVec.ofInt kd.bits b).toNat))
 | .xor=>k (.int kd (kd.wrap (BitVec.ofInt kd.bits a ^^^ BitVec.ofInt kd.bits b).toNat))
 | .andNot=>k (.int kd (kd.wrap (BitVec.ofInt kd.bits a &&& ~~~ BitVec.ofInt kd.bits b).toNat))
 | .eql=>k (.bool (a==b))
 | .neq=>k (.bool (a !=b))
 | .lss=>k (.bool (decide (a<b)))
 | .leq=>k (.bool (decide (a≤b)))
 | .gtr=>k (.bool (decide (a>b)))
 | .geq=>k (.bool (decide (a≥b)))
 | _=>none
def shOp (op:BinOp) (kd:IntKind) (a b:Int) (k:AV→R):R:=match op with
 | .shl=>br (decide (b<0)) none (k (.int kd (kd.wrap (a*2 ^ min b.toNat kd.bits))))
 | .shr=>br (decide (b<0)) none (k (.int kd (a.fdiv (2 ^ min b.toNat kd.bits))))
 | _=>none
def Xuy (op:BinOp) (a b:ByteArray) (k:AV→R):R:=match op with
 | .add=>br (decide (((a.size+b.size:Nat):Int)≤9223372036854775807)) (k (.str (a++b))) none
 | .eql=>k (.bool (a.toList==b.toList))
 | .neq=>k (.bool (!(a.toList==b.toList)))
 | .lss=>k (.bool (Op.bytesLess a.toList b.toList))
 | .leq=>k (.bool (Op.bytesLess a.toList b.toList||a.toList==b.toList))
 | .gtr=>k (.bool (!(Op.bytesLess a.toList b.toList||a.toList==b.toList)))
 | .geq=>k (.bool (!(Op.bytesLess a.toList b.toList)))
 | _=>none
def Uc:List AV→List AV→(Bool→R)→R
 | [],[],k=>k true
 | a::x,b::y,k=>match a,b with
   | .int c m,.int d n=>match decide (c=d) with
     | true=>Uc x y fun t=>k (m==n&&t)
     | false=>none
   | .bool m,.bool n=>Uc x y fun t=>k (m==n&&t)
   | .str m,.str n=>Uc x y fun t=>k (m==n&&t)
   | _,_=>none
 | _,_,_=>none
def memT:List (TypeId×Nat)→TypeId→(Nat→R)→R
 | [],_,_=>none
 | (t',c)::l,t,k=>if t'=t then k c else memT l t k
def Xls:Nat→List AV→Bool
 | 0,[]=>true
 | c+1,v::l=>match v with
   | .int kd _=>match kd with
     | .i64=>Xls c l
     | _=>false
   | _=>false
 | _,_=>false
def eqOp (cfg:Cfg) (t:TypeId) (h:Heap) (a b:AV) (k:Bool→R):R:=tyK cfg.ty t fun x=>match x.shape,a,b with
 | .bool,.bool m,.bool n=>k (m==n)
 | .struct _,.agg m,.agg n=>memT cfg.eqs t fun c=>match Xls c m with
   | true=>Uc m n k
   | false=>none
 | .slice _,.emp,.emp=>k true
 | .slice _,.ref r p,.emp=>nav h r p fun _ _ rows=>br (decide (rows.length=0)) (both (k true) (k false)) (k false)
 | .slice _,.sub _ _ _ len,.emp=>br (decide (len=0)) (both (k true) (k false)) (k false)
 | .slice _,.lst _ rows,.emp=>match rows with
   | []=>both (k true) (k false)
   | _=>none
 | .ptr _,.nilp,.nilp=>k true
 | .ptr _,.ptr _ _ _ _,.nilp=>k false
 | .func,.nilf,.nilf=>k true
 | .func,.fn _ _,.nilf=>k false
 | _,_,_=>none
def binOp (cfg:Cfg) (op:BinOp) (t:TypeId) (h:Heap) (a b:AV) (k:AV→R):R:=match a,b with
 | .int kd m,.int kd' n=>match op with
   | .shl=>shOp .shl kd m n k
   | .shr=>shOp .shr kd m n k
   | op=>match decide (kd=kd') with
     | true=>Xux op kd m n k
     | false=>none
 | .str m,.str n=>Xuy op m n k
 | a,b=>match op with
   | .eql=>eqOp cfg t h a b fun t=>k (.bool t)
   | .neq=>eqOp cfg t h a b fun t=>k (.bool !t)
   | _=>none
def unOp (op:UnOp) (a:AV) (k:AV→R):R:=match op,a with
 | .neg,.int kd n=>k (.int kd (kd.wrap (0 - n)))
 | .not,.bool b=>k (.bool !b)
 | _,_=>none
def Xbe (h:Heap) (v:AV) (k:Nat→Path→Nat→Nat→Nat→Rows→R):R:=match v with
 | .ref r p=>nav h r p fun _ sz rows=>k r p 0 rows.length sz rows
 | .sub r p off len=>nav h r p fun _ sz rows=>k r p off len sz rows
 | _=>none
def Xe2 (h:Heap) (v:AV) (k:Nat→R):R:=match v with
 | .ref r p=>nav h r p fun _ _ rows=>k rows.length
 | .sub _ _ _ len=>k len
 | .str s=>k s.size
 | .emp=>k 0
 | .lst _ rows=>k rows.length
 | _=>none
def Xlt:List AV→Bool
 | []=>true
 | v::l=>match v with
   | .bool _ | .int _ _ | .str _=>Xlt l
   | _=>false
def X3b:List AV→Bool
 | []=>false
 | v::l=>match v with
   | .ptr _ _ _ _ | .fn _ _=>true
   | _=>X3b l
def isEx:List (Nat×AV)→Bool
 | []=>false
 | (_,v)::l=>match v with
   | .ptr _ _ _ _ | .fn _ _=>true
   | .agg cs=>match X3b cs with | true=>true | false=>isEx l
   | _=>isEx l
def Y0 (rows:Rows):Bool:=rows.all Xlt
def X3c (v:AV):Bool:=match v with
 | .undef=>false
 | _=>true
def Xjc (rows:Rows):Bool:=rows.all (·.all X3c)
def Xf8 (_cfg:Cfg) (e:TInfo) (v:AV) (st:St) (k:Rows→St→R):R:=match v with
 | .emp=>k [] st
 | .lst _ rows=>match rows with | []=>k [] st | _=>none
 | .str s=>match e.size with
   | 1=>k (s.data.toList.map fun b=>[.int .u8 b.toNat]) st
   | _=>none
 | .ref r p=>match Xlt e.zero with
   | true=>nav st.heap r p fun x sz rows=>match decide (sz=e.size) with
     | true=>match x.box,p with | true,[]=>none | _,_=>br (Y0 rows) (k rows st) none
     | false=>none
   | false=>match p with
     | []=>Xeq st r [] fun sz rows st=>match decide (sz=e.size) with | true=>br (Xjc rows) (k rows st) none | false=>none
     | _=>none
 | .sub r p off len=>match Xlt e.zero with
   | true=>nav st.heap r p fun x sz rows=>match decide (sz=e.size) with
     | true=>match x.box,p with | true,[]=>none | _,_=>br (Y0 rows) (k ((rows.drop off).take len) st) none
     | false=>none
   | false=>none
 | _=>none
def Zj (v:AV) (rows:Rows):Rows:=match v with
 | .sub _ _ off len=>(rows.drop off).take len
 | _=>rows
def X3d (v:AV) (k:Nat→Path→R) (k0:R):R:=match v with
 | .ref r p=>k r p
 | .sub r p _ _=>k r p
 | .emp=>k0
 | .lst _ rows=>match rows with | []=>k0 | _=>none
 | _=>none
def Yf:Nat:=140737488355328
def Xxv (cfg:Cfg) (t:TypeId) (k:R):R:=tyK cfg.ty t fun x=>match x.shape with
 | .slice _=>k
 | .str=>k
 | _=>none
def posK (n:Nat) (x:R):R:=match n with
 | 0=>none
 | _=>x
def Xq5 (cfg:Cfg) (slot:Nat) (t tx:TypeId) (d s:AV) (st:St) (k:AV→St→R):R :=
 tyK cfg.ty t fun x=>match x.shape with
 | .slice e=>Xxv cfg tx (tyK cfg.ty e fun e=>posK e.bytes (Xf8 cfg e s st fun news st =>
  X3d d (fun r p=>Xeq st r p fun sz rows st=>match decide (sz=e.size) with
   | true=>br (decide (((Zj d rows).length+news.length)*e.bytes≤Yf)) (match p with
     | []=>V0 st r ⟨false,false,false,sz,Zj d rows++news⟩ fun st=>k (.ref r []) st
     | _=>V0 st slot ⟨false,false,false,sz,Zj d rows++news⟩ fun st=>k (.ref slot []) st) none
   | false=>none)
  (br (decide (news.length*e.bytes≤Yf)) (V0 st slot ⟨false,false,false,e.size,news⟩ fun st=>k (.ref slot []) st) none)))
 | _=>none
def Xb2 (ex:Bool) (n:Nat):List (Nat×AV)→Rows→St→(Rows→St→R)→R
 | [],rows,st,k=>k rows st
 | (i,v)::l,rows,st,k=>Xd7 n v fun vs=>U9 ex ex 0 vs st fun cs st=>setCells rows i 0 cs fun rows=>Xb2 ex n l rows st k
def Xq6 (e:List AV):List (Nat×Operand)→(List (Nat×AV)→R)→R
 | [],k=>k []
 | (i,o)::l,k=>opnd e o fun v=>Xq6 e l fun vs=>k ((i,v)::vs)
def Xs8:Nat→List AV→(Rows→R)→R
 | 0,_,k=>k []
 | n+1,z,k=>Xs8 n z fun l=>k (z::l)
def Xd8 (cfg:Cfg) (fs:List (Nat×TypeId)):List (Nat×AV)→List AV→(List AV→R)→R
 | [],row,k=>k row
 | (i,v)::l,row,k=>match fs[i]? with
   | some (off,t)=>tyK cfg.ty t fun x=>match x.size with
     | 0=>none
     | _=>Xd7 x.size v fun vs=>Xur row off vs fun row=>Xd8 cfg fs l row k
   | none=>none
def cl0 (h:Heap) (esz:Nat) (v:AV) (k:AV→R):R:=match v with
 | .bool b=>k (.bool b)
 | .int kd n=>k (.int kd n)
 | .str s=>k (.str s)
 | .nilp=>k .nilp
 | .nilf=>k .nilf
 | .lst sz rows=>k (.lst sz rows)
 | .emp=>k (.lst esz [])
 | .ref r p=>nav h r p fun x sz rows=>match x.box,p with | true,[]=>none | _,_=>k (.lst sz rows)
 | .sub r p off len=>nav h r p fun x sz rows=>match x.box,p with | true,[]=>none | _,_=>k (.lst sz ((rows.drop off).take len))
 | _=>none
def clL0 (h:Heap) (esz:Nat):List AV→(List AV→R)→R
 | [],k=>k []
 | v::l,k=>cl0 h esz v fun v=>clL0 h esz l fun l=>k (v::l)
def clP (h:Heap) (n:Nat) (v:AV) (k:AV→R):R:=match v with
 | .ptr r p i j=>match n with
   | 0=>none
   | n+1=>nav h r p fun _ _ rows=>Z6 rows i fun row=>Xgq j row fun row=>cut (n+1) row fun row _=>clL0 h 0 row fun row=>k (.pv row)
 | .nilp=>k .nilp
 | _=>none
def clC (h:Heap):List AV→(List AV→R)→R
 | [],k=>k []
 | v::l,k=>match v with
   | .ptr r p i j=>match p,i,j with
     | [],0,0=>nav h r p fun _ n _=>clP h n v fun v=>clC h l fun l=>k (v::l)
     | _,_,_=>none
   | v=>cl0 h 0 v fun v=>clC h l fun l=>k (v::l)
def cl1 (cfg:Cfg) (h:Heap) (t:TypeId) (v:AV) (k:AV→R):R:=match v with
 | .agg cs=>clL0 h 0 cs fun cs=>k (.agg cs)
 | .fn f cs=>clC h cs fun cs=>k (.fn f cs)
 | .ptr r p i j=>tyK cfg.ty t fun x=>match x.shape with
   | .ptr e=>tyK cfg.ty e fun y=>clP h y.size (.ptr r p i j) k
   | _=>none
 | v=>U6 cfg t fun esz=>cl0 h esz v k
def Qu (cfg:Cfg) (h:Heap):List TypeId→List AV→(List AV→R)→R
 | [],[],k=>k []
 | t::ts,v::l,k=>cl1 cfg h t v fun v=>Qu cfg h ts l fun l=>k (v::l)
 | _,_,_=>none
def ta0 (v:AV) (st:St) (k:AV→St→R):R:=match v with
 | .bool b=>k (.bool b) st
 | .int kd n=>k (.int kd n) st
 | .str s=>k (.str s) st
 | .nilp=>k .nilp st
 | .lst sz rows=>k (.lst sz rows) st
 | .ref r p=>Xeq st r p fun sz rows st=>k (.lst sz rows) st
 | .sub r p off len=>Xeq st r p fun sz rows st=>k (.lst sz ((rows.drop off).take len)) st
 | _=>none
def taL0:List AV→St→(List AV→St→R)→R
 | [],st,k=>k [] st
 | v::l,st,k=>ta0 v st fun v st=>taL0 l st fun l st=>k (v::l) st
def ta1 (v:AV) (st:St) (k:AV→St→R):R:=match v with
 | .agg cs=>taL0 cs st fun cs st=>k (.agg cs) st
 | v=>ta0 v st k
def taL1:List AV→St→(List AV→St→R)→R
 | [],st,k=>k [] st
 | v::l,st,k=>ta1 v st fun v st=>taL1 l st fun l st=>k (v::l) st
def ta2 (v:AV) (st:St) (k:AV→St→R):R:=match v with
 | .tup vs=>taL1 vs st fun vs st=>k (.tup vs) st
 | v=>ta1 v st k
def addK:List AV→AV→(Nat→List AV→R)→R
 | [],v,k=>k 0 [v]
 | a::l,v,k=>addK l v fun n l=>k (n+1) (a::l)
def op0 (slot:Nat) (v:AV) (row:List AV) (k:AV→List AV→R):R:=match v with
 | .lst sz rows=>addK row (.lst sz rows) fun n row=>k (.ref slot [(0,n)]) row
 | .bool b=>k (.bool b) row
 | .int kd n=>k (.int kd n) row
 | .str s=>k (.str s) row
 | .nilp=>k .nilp row
 | .nilf=>k .nilf row
 | _=>none
def opL0 (slot:Nat):List AV→List AV→(List AV→List AV→R)→R
 | [],row,k=>k [] row
 | v::l,row,k=>op0 slot v row fun v row=>opL0 slot l row fun l row=>k (v::l) row
def op1 (slot:Nat) (v:AV) (row:List AV) (k:AV→List AV→R):R:=match v with
 | .agg cs=>opL0 slot cs row fun cs row=>k (.agg cs) row
 | v=>op0 slot v row k
def opL1 (slot:Nat):List AV→List AV→(List AV→List AV→R)→R
 | [],row,k=>k [] row
 | v::l,row,k=>op1 slot v row fun v row=>opL1 slot l row fun l row=>k (v::l) row
def op2 (slot:Nat) (v:AV) (row:List AV) (k:AV→List AV→R):R:=match v with
 | .tup vs=>opL1 slot vs row fun vs row=>k (.tup vs) row
 | v=>op1 slot v row k
def ro1 (h:Heap) (v:AV) (k:Bool→R):R:=match v with
 | .ref r _=>getH h r fun x=>k x.ro
 | .sub r _ _ _=>getH h r fun x=>k x.ro
 | .ptr r _ _ _=>getH h r fun x=>k x.ro
 | .tup _=>k false
 | .pv _=>k false
 | .undef=>k false
 | .fn _ _=>k false
 | .agg _=>k false
 | _=>k true
def roL1 (h:Heap):List AV→(Bool→R)→R
 | [],k=>k true
 | v::l,k=>ro1 h v fun b=>match b with
   | true=>roL1 h l k
   | false=>k false
def ro2 (h:Heap) (v:AV) (k:Bool→R):R:=match v with
 | .agg cs=>roL1 h cs k
 | .fn _ cs=>roL1 h cs k
 | v=>ro1 h v k
def Xjd (slot:Nat) (own:Bool) (_lent:List AV) (v:AV) (st:St) (k:AV→St→R):R :=
 op2 slot v [] fun v row=>match row with
 | []=>k v st
 | a::row=>match own with
   | true=>V0 st slot ⟨false,true,true,0,[a::row]⟩ fun st=>k v st
   | false=>none
def Xuz:Heap→Root→(Nat→Heap→R)→R
 | [],x,k=>k 0 [some x]
 | a::h,x,k=>Xuz h x fun n h=>k (n+1) (a::h)
def oaC (ro:Bool):List AV→List AV→Heap→(List AV→List AV→Heap→R)→R
 | [],row,h,k=>k [] row h
 | v::l,row,h,k=>match v with
   | .pv cs=>Xuz h ⟨ro,false,true,cs.length,[cs]⟩ fun n h=>oaC ro l row h fun l row h=>k (.ptr n [] 0 0::l) row h
   | .agg cs=>opL0 0 cs row fun cs row=>oaC ro l row h fun l row h=>k (.agg cs::l) row h
   | v=>op0 0 v row fun v row=>oaC ro l row h fun l row h=>k (v::l) row h
def oa (ro:Bool):List AV→List AV→Heap→(List AV→List AV→Heap→R)→R
 | [],row,h,k=>k [] row h
 | v::l,row,h,k=>match v with
   | .pv cs=>Xuz h ⟨ro,false,true,cs.length,[cs]⟩ fun n h=>oa true l row h fun l row h=>k (.ptr n [] 0 0::l) row h
   | .agg cs=>opL0 0 cs row fun cs row=>oa true l row h fun l row h=>k (.agg cs::l) row h
   | .fn f cs=>oaC true cs row h fun cs row h=>oa true l row h fun l row h=>k (.fn f cs::l) row h
   | v=>op0 0 v row fun v row=>oa true l row h fun l row h=>k (v::l) row h
def Xhp (ro:Bool) (vs:List AV) (k:List AV→Heap→R):R :=
 oa ro vs [] [none] fun vs row h=>setH h 0 (some ⟨true,true,true,0,[row]⟩) fun h=>k vs h
structure Lev where
 pure:FuncId→List AV→R
 inl:FuncId→List AV→St→(AV→St→R)→R
def fnK:List (FuncId×Func)→FuncId→(Func→R)→R
 | [],_,_=>none
 | (g,x)::l,f,k=>if g=f then k x else fnK l f k
def Xg3:AV→Bool
 | .bool _ | .int _ _ | .str _ | .nilp | .nilf=>true
 | _=>false
def Xhq:List AV→Bool
 | []=>true
 | v::l=>match Xg3 v with
   | true=>Xhq l
   | false=>false
def Xn9:AV→Bool
 | .tup l=>Xhq l
 | .agg l=>Xhq l
 | v=>Xg3 v
def Xe3 {α:Type}:Nat→List α→(List α→α→List α→R)→R
 | 0,a::l,k=>k [] a l
 | n+1,a::l,k=>Xe3 n l fun x y z=>k (a::x) y z
 | _,[],_=>none
def ioc0 (h:Heap) (r esz:Nat) (v:AV) (k:AV→R):R:=match v with
 | .ref r' p=>if r'=r then none else cl0 h esz (.ref r' p) k
 | .sub r' p off len=>if r'=r then none else cl0 h esz (.sub r' p off len) k
 | v=>cl0 h esz v k
def Xu0 (h:Heap) (r:Nat):List AV→(List AV→R)→R
 | [],k=>k []
 | v::l,k=>ioc0 h r 0 v fun v=>Xu0 h r l fun l=>k (v::l)
def ioc1 (cfg:Cfg) (h:Heap) (r:Nat) (t:TypeId) (v:AV) (k:AV→R):R:=match v with
 | .agg cs=>Xu0 h r cs fun cs=>k (.agg cs)
 | v=>U6 cfg t fun esz=>ioc0 h r esz v k
def Xlu (cfg:Cfg) (h:Heap) (r:Nat):List TypeId→List AV→(List AV→R)→R
 | [],[],k=>k []
 | t::ts,v::l,k=>ioc1 cfg h r t v fun v=>Xlu cfg h r ts l fun l=>k (v::l)
 | _,_,_=>none
def inR (r:Nat):AV→Bool
 | .ref r' _=>match decide (r'=r) with | true=>true | false=>false
 | v=>Xg3 v
def taR (r:Nat):List AV→St→(List AV→St→R)→R
 | [],st,k=>k [] st
 | v::l,st,k=>match inR r v with
   | true=>ta0 v st fun v st=>taR r l st fun l st=>k (v::l) st
   | false=>none
def roHd (r:Nat) (cs:List AV) (k:AV→List AV→R) (k0:R):R:=match cs with
 | .ref r' p::rest=>match r'==r with | true=>k0 | false=>k (.ref r' p) rest
 | _=>k0
def Xxw (cfg:Cfg) (lv:Lev) (f:FuncId) (m:Nat) (ts:List TypeId) (vs:List AV) (st:St) (k:AV→St→R):R :=
 Xe3 m ts fun ta _ tb=>Xe3 m vs fun va p vb=>match p with
 | .ptr r q i j=>match q with
   | []=>getH st.heap r fun x=>match x with
     | ⟨ro,virt,box,_,_⟩=>match ro,virt,box with
       | false,false,true=>Xlu cfg st.heap r ta va fun va=>Xlu cfg st.heap r tb vb fun vb=>U4 cfg (cfg.ioT f) st.heap (.ptr r [] i j) fun v=>match v with
         | .agg cs=>roHd r cs (fun c rest=>ioc0 st.heap r 0 c fun b=>taR r rest st fun cs st=>cat va (.pv (.tup [b]::cs)::vb) fun args=>bnd (lv.pure f args) fun res=>match Xgr cs.length res.out,cs with
           | true,_::_=>Wt r [] i (j+1) res.out st fun st=>match Xn9 res.val with
             | true=>k res.val st
             | false=>none
           | _,_=>none) (taR r cs st fun cs st=>cat va (.pv cs::vb) fun args=>bnd (lv.pure f args) fun res=>match Xgr cs.length res.out,cs with
           | true,_::_=>Wt r [] i j res.out st fun st=>match Xn9 res.val with
             | true=>k res.val st
             | false=>none
           | _,_=>none)
         | _=>none
       | _,_,_=>none
   | _=>none
 | _=>none
def Xu1 (cfg:Cfg) (lv:Lev) (slot:Nat) (f:FuncId) (ts:List TypeId) (vs:List AV) (st:St) (k:AV→St→R):R:=match cfg.mode f with
 | 0=>Qu cfg st.heap ts vs fun vs'=>bnd (lv.pure f vs') fun res=>Xjd slot (cfg.own f) vs res.val st k
 | 1=>lv.inl f vs st k
 | m+2=>Xxw cfg lv f m ts vs st k
def Xu2 (cfg:Cfg) (lv:Lev) (slot:Nat) (f:FuncId) (ts:List TypeId) (vs cap:List AV) (st:St) (k:AV→St→R):R:=match cap with
 | []=>Xu1 cfg lv slot f ts vs st k
 | _=>match cfg.mode f with
   | 0=>Qu cfg st.heap ts vs fun vs'=>clC st.heap cap fun cap'=>cat vs' cap' fun vs'=>bnd (lv.pure f vs') fun res=>cat vs cap fun vs=>Xjd slot (cfg.own f) vs res.val st k
   | _=>cat vs cap fun vs=>lv.inl f vs st k
def Xlv (mx:Bool):AV→List AV→(AV→R)→R
 | v,[],k=>k v
 | .int kd a,.int kd' b::l,k=>match decide (kd=kd') with
   | true=>Xlv mx (.int kd (if mx then max a b else min a b)) l k
   | false=>none
 | _,_,_=>none
def Wn (cfg:Cfg) (slot:Nat) (b:Builtin) (ts:List TypeId) (vs:List AV) (st:St) (k:AV→St→R):R:=match b,vs with
 | .len,[v]=>match ts with
   | [t]=>tyK cfg.ty t fun x=>match x.shape with
     | .str=>match v with
       | .str s=>k (.int .i64 s.size) st
       | _=>none
     | .slice _=>match v with
       | .str _=>none
       | v=>Xe2 st.heap v fun n=>k (.int .i64 n) st
     | _=>none
   | _=>none
 | .append,[d,s]=>match ts with
   | [t,tx]=>Xq5 cfg slot t tx d s st k
   | _=>none
 | .min,v::vs=>Xlv false v vs fun v=>k v st
 | .max,v::vs=>Xlv true v vs fun v=>k v st
 | _,_=>none
def Xpp (rows:Rows):Bool:=rows.all fun r=>match r with
 | [.int .u8 _]=>true
 | _=>false
def nums (rows:Rows):List Int:=rows.map fun r=>match r with
 | [.int _ n]=>n
 | _=>0
def Xpq (xs:List Int):ByteArray:=⟨(xs.map fun n=>UInt8.ofNat n.toNat).toArray⟩
def Xxx (cfg:Cfg) (slot:Nat) (sx:Shape) (dst:TypeId) (v:AV) (st:St) (k:AV→St→R):R:=tyK cfg.ty dst fun y=>match y.shape,v with
 | .int kd,.int _ n=>k (.int kd (kd.wrap n)) st
 | .slice e,.str s=>match sx with
   | .str=>tyK cfg.ty e fun z=>match z.shape with
     | .int .u8=>V0 st slot ⟨false,false,false,1,s.data.toList.map fun b=>[.int .u8 b.toNat]⟩ fun st=>k (.ref slot []) st
     | _=>none
   | _=>none
 | .str,v=>match sx with
   | .slice e=>tyK cfg.ty e fun z=>match z.shape with
     | .int .u8=>cl0 st.heap 1 v fun v=>match v with
       | .lst sz rows=>match decide (sz=1) with
         | true=>br (Xpp rows) (k (.str (Xpq (nums rows))) st) none
         | false=>none
       | _=>none
     | _=>none
   | _=>none
 | _,_=>none
def nth (l:List AV) (n:Nat) (k:AV→R):R:=getE l n k
def loK (e:List AV) (lo:Option Operand) (k:Int→R):R:=match lo with
 | some l=>opnd e l fun l=>match l with
   | .int _ l=>k l
   | _=>none
 | none=>k 0
def hiK (e:List AV) (hi:Option Operand) (n:Nat) (k:Int→R):R:=match hi with
 | some g=>opnd e g fun g=>match g with
   | .int _ g=>k g
   | _=>none
 | none=>k n
def evOp (cfg:Cfg) (lv:Lev) (slot:Nat) (o:Oper) (st:St) (c:St→R):R:=match o.op with
 | .move x | .assign x=>opnd st.env x fun v=>Xpo cfg o.type slot v st fun v st=>putD st o.dst v c
 | .pick x a b=>opnd st.env x fun v=>match v with
   | .bool t=>br t (opnd st.env a fun v=>putD st o.dst v c) (opnd st.env b fun v=>putD st o.dst v c)
   | _=>none
 | .alloc t=>tyK cfg.ty t fun x=>V0 st slot ⟨false,false,true,x.size,[x.zero]⟩ fun st=>putD st o.dst (.ptr slot [] 0 0) c
 | .box t x=>opnd st.env x fun v=>tyK cfg.ty t fun y=>U6 cfg t fun esz=>Xd7 y.size v fun vs=>Xd6 false true esz vs st fun cs st =>
  V0 st slot ⟨false,false,true,y.size,[cs]⟩ fun st=>putD st o.dst (.ptr slot [] 0 0) c
 | .build t ps=>tyK cfg.ty t fun x=>match x.shape with
   | .struct fs=>Xq6 st.env ps.toList fun vs=>Xd8 cfg fs vs x.zero fun row=>putD st o.dst (.agg row) c
   | _=>none
 | .buildSlice t n ps=>tyK cfg.ty t fun x=>match x.shape with
   | .slice e=>tyK cfg.ty e fun y=>Xq6 st.env ps.toList fun vs=>match decide (n*y.size≤16777216) with
     | false=>none
     | true=>Xs8 n y.zero fun rows=>match isEx vs with
     | true=>Xb2 true y.size vs rows st fun rows st=>V0 st slot ⟨false,false,true,y.size,rows⟩ fun st=>putD st o.dst (.ref slot []) c
     | false=>Xb2 false y.size vs rows st fun rows st=>V0 st slot ⟨false,false,false,y.size,rows⟩ fun st=>putD st o.dst (.ref slot []) c
   | _=>none
 | .load t a=>opnd st.env a fun v=>U4 cfg t st.heap v fun v=>putD st o.dst v c
 | .store t a x=>opnd st.env a fun a=>opnd st.env x fun v=>Xs7 cfg t st a v fun st=>putD st o.dst (.tup []) c
 | .nilCheck x=>opnd st.env x fun v=>match v with
   | .ptr r p i j=>putD st o.dst (.ptr r p i j) c
   | .fn f cs=>putD st o.dst (.fn f cs) c
   | _=>none
 | .binOp op t x y _=>opnd st.env x fun a=>opnd st.env y fun b=>binOp cfg op t st.heap a b fun v=>putD st o.dst v c
 | .unOp op _ x=>opnd st.env x fun a=>unOp op a fun v=>putD st o.dst v c
 | .convert sr d x=>tyK cfg.ty sr fun sx=>opnd st.env x fun a=>Xxx cfg slot sx.shape d a st fun v st=>putD st o.dst v c
 | .makeFunc fn fs cap=>match fn,fs.toList with
   | .func f,[]=>Xbo st.env cap.toList fun vs=>putD st o.dst (.fn f vs) c
   | _,_=>none
 | .makeSlice t n m=>tyK cfg.ty t fun x=>match x.shape with
   | .slice e=>tyK cfg.ty e fun y=>match y.bytes with
     | 0=>none
     | _=>opnd st.env n fun n=>opnd st.env m fun m=>match n,m with
       | .int _ n,.int _ m=>br (decide (0≤n)) (br (decide (n≤m)) (br (decide (m.toNat*y.bytes≤Yf))
        (V0 st slot ⟨false,false,false,y.size,List.replicate n.toNat y.zero⟩ fun st=>putD st o.dst (.ref slot []) c) none) none) none
       | _,_=>none
   | _=>none
 | .slice t x lo hi mx=>match mx with
   | some _=>none
   | none=>tyK cfg.ty t fun ti=>opnd st.env x fun v=>loK st.env lo fun l=>match ti.shape with
     | .str=>match v with
       | .str s=>hiK st.env hi s.size fun g=>br (decide (0≤l)) (br (decide (l≤g)) (br (decide (g≤(s.size:Int))) (putD st o.dst (.str (s.extract l.toNat g.toNat)) c) none) none) none
       | _=>none
     | .slice e=>tyK cfg.ty e fun y=>Xbe st.heap v fun r p off len sz _=>match decide (sz=y.size) with
       | true=>hiK st.env hi len fun g=>br (decide (0≤l)) (br (decide (l≤g)) (br (decide (g≤(len:Int))) (match off with
         | 0=>putD st o.dst (.sub r p l.toNat (g.toNat - l.toNat)) c
         | off=>putD st o.dst (.sub r p (off+l.toNat) (g.toNat - l.toNat)) c) none) none) none
       | false=>none
     | _=>none
 | .fieldAddr s x f=>opnd st.env x fun v=>tyK cfg.ty s fun t=>match t.shape,v with
   | .struct fs,.ptr r p i j=>match fs[f]? with
     | some (off,ft)=>tyK cfg.ty ft fun y=>match y.size with
       | 0=>none
       | _=>putD st o.dst (.ptr r p i (j+off)) c
     | none=>none
   | _,_=>none
 | .field s x f=>opnd st.env x fun v=>tyK cfg.ty s fun t=>match t.shape,v with
   | .struct fs,.agg cs=>match fs[f]? with
     | some (off,ft)=>Xgq off cs fun cs=>tyK cfg.ty ft fun y=>match y.shape with
       | .struct _=>cut y.size cs fun cs _=>putD st o.dst (.agg cs) c
       | _=>nth cs 0 fun v=>putD st o.dst v c
     | none=>none
   | _,_=>none
 | .indexAddr t x i=>opnd st.env x fun v=>opnd st.env i fun w=>match w with
   | .int _ i=>Xe1 cfg t fun esz=>Xbe st.heap v fun r p off len sz _=>match decide (sz=esz) with
     | true=>br (decide (0≤i)) (br (decide (i<(len:Int))) (match off with
       | 0=>putD st o.dst (.ptr r p i.toNat 0) c
       | off=>putD st o.dst (.ptr r p (off+i.toNat) 0) c) none) none
     | false=>none
   | _=>none
 | .index t x i=>tyK cfg.ty t fun ti=>match ti.shape with
   | .str=>opnd st.env x fun v=>opnd st.env i fun w=>match v,w with
     | .str s,.int _ i=>br (decide (0≤i)) (br (decide (i<(s.size:Int))) (putD st o.dst (.int .u8 ((s[i.toNat]?).getD 0).toNat) c) none) none
     | _,_=>none
   | _=>none
 | .extract x i=>opnd st.env x fun v=>match v with
   | .tup vs=>nth vs i fun v=>putD st o.dst v c
   | _=>none
 | .call cl=>Xbo st.env cl.args.toList fun vs=>match cl.callee with
   | .builtin b=>Wn cfg slot b cl.argTypes.toList vs st fun v st=>putD st o.dst v c
   | .value g=>opnd st.env g fun g=>match g with
     | .fn f cap=>Xu2 cfg lv slot f cl.argTypes.toList vs cap st fun v st=>putD st o.dst v c
     | _=>none
   | _=>none
 | _=>none
def Xbf (all:List Oper) (g:Option (Nat×Bool)) (st:St) (run skip:R):R:=match g with
 | none=>run
 | some (j,w)=>match all[j]? with
   | some o=>match o.dst with
     | some d=>getE st.env d fun v=>match v with
       | .bool t=>match w with
         | true=>br t run skip
         | false=>br t skip run
       | .tup []=>skip
       | _=>none
     | none=>none
   | none=>none
def Xpr (cfg:Cfg) (lv:Lev) (all:List Oper):List Oper→St→(St→R)→R
 | [],st,c=>c st
 | o::l,st,c=>Xbf all o.guard st (lenH st.heap fun slot=>evOp cfg lv slot o st fun st=>Xpr cfg lv all l st c) (putD st o.dst (.tup []) fun st=>Xpr cfg lv all l st c)
theorem Xq7:∃ f,f=Xpr:=⟨_,rfl⟩
@[irreducible] noncomputable def Xgs:Cfg→Lev→List Oper→List Oper→St→(St→R)→R:=Classical.choose Xq7
theorem Xoa:Xgs=Xpr:=by unfold Xgs;exact Classical.choose_spec Xq7
theorem V1 {cfg:Cfg} {lv:Lev} {all:List Oper} {st:St} {c:St→R}:Xgs cfg lv all [] st c=c st:=by rw [Xoa];rfl
theorem Vb {cfg:Cfg} {lv:Lev} {all:List Oper} {o:Oper} {l:List Oper} {st:St} {c:St→R}:Xgs cfg lv all (o::l) st c=Xbf all o.guard st (lenH st.heap fun slot=>evOp cfg lv slot o st fun st=>Xgs cfg lv all l st c) (putD st o.dst (.tup []) fun st=>Xgs cfg lv all l st c):=by rw [Xoa];rfl
def Xu3 {α:Type}:List α→(List α→R)→R
 | [],k=>k []
 | x::l,k=>Xu3 l fun l=>k (x::l)
theorem Xlw {α:Type} {l:List α} {k:List α→R}:Xu3 l k=k l:=by
 induction l generalizing k with
 | nil=>rfl
 | cons x l ih=>exact ih
def Xu4 (live:List Nat):Nat→List AV→(List AV→R)→R
 | _,[],k=>k []
 | i,v::l,k=>Xu4 live (i+1) l fun l=>match live.contains i with
   | true=>k (v::l)
   | false=>k (.undef::l)
def ok0 (n:Nat) (v:AV):Bool:=match v with
 | .ref r _ | .sub r _ _ _ | .ptr r _ _ _=>decide (r<n)
 | .agg _ | .tup _ | .fn _ _=>false
 | _=>true
def okL0 (n:Nat):List AV→Bool
 | []=>true
 | v::l=>match ok0 n v with | true=>okL0 n l | false=>false
def ok1 (n:Nat) (v:AV):Bool:=match v with
 | .agg cs | .fn _ cs=>okL0 n cs
 | v=>ok0 n v
def okL1 (n:Nat):List AV→Bool
 | []=>true
 | v::l=>match ok1 n v with | true=>okL1 n l | false=>false
def ok2 (n:Nat) (v:AV):Bool:=match v with
 | .tup cs=>okL1 n cs
 | v=>ok1 n v
def okL2 (n:Nat):List AV→Bool
 | []=>true
 | v::l=>match ok2 n v with | true=>okL2 n l | false=>false
def Xps (n:Nat):Rows→Bool
 | []=>true
 | v::l=>match okL1 n v with | true=>Xps n l | false=>false
def Xu5 (n:Nat):List (List AV)→Bool
 | []=>true
 | v::l=>match okL2 n v with | true=>Xu5 n l | false=>false
def Xhr (n0:Nat):Nat→Heap→(Heap→R)→R
 | 0,_,k=>k []
 | n+1,a::h,k=>match a with
   | none=>Xhr n0 n h fun h=>k (none::h)
   | some x=>match x with
     | ⟨ro,virt,box,sz,rows⟩=>match box with
       | true=>match Xps n0 rows with
         | true=>Xhr n0 n h fun h=>k (some ⟨ro,virt,true,sz,rows⟩::h)
         | false=>none
       | false=>Xhr n0 n h fun h=>k (some ⟨ro,virt,false,sz,rows⟩::h)
 | _+1,[],_=>none
def Xhs (n:Nat) (live:List Nat) (st:St) (k:St→R):R:=Xu4 live 0 st.env fun e=>match okL2 n e with
 | true=>match Xu5 n st.stk with
   | true=>Xhr n n st.heap fun h=>k ⟨e,st.stk,h⟩
   | false=>none
 | false=>none
def Xu6 (n:Nat) (live:List Nat) (body:St→(Exit→St→R)→R):Nat→St→(Exit→St→R)→R
 | 0,_,_=>none
 | f+1,st,c=>body st fun e st=>match e with
   | .normal=>Xhs n live st fun st=>Xu6 n live body f st c
   | e=>c e st
theorem Xje:∃ F:Nat→List Nat→(St→(Exit→St→R)→R)→Nat→St→(Exit→St→R)→R,(∀ n live body st c,F n live body 0 st c=none) ∧
 ∀ n live body f st c,F n live body (f+1) st c=body st fun e st=>match e with
  | .normal=>Xhs n live st fun st=>F n live body f st c
  | e=>c e st:=⟨Xu6,fun _ _ _ _ _=>rfl,fun _ _ _ _ _ _=>rfl⟩
@[irreducible] def Ud:Nat→List Nat→(St→(Exit→St→R)→R)→Nat→St→(Exit→St→R)→R:=Classical.choose Xje
theorem Xq8 (n:Nat) (live:List Nat) (body:St→(Exit→St→R)→R) (st:St) (c:Exit→St→R):Ud n live body 0 st c=none:=by unfold Ud;exact (Classical.choose_spec Xje).1 n live body st c
theorem Xcy (n:Nat) (live:List Nat) (body:St→(Exit→St→R)→R) (f:Nat) (st:St) (c:Exit→St→R) :
 Ud n live body (f+1) st c=body st fun e st=>match e with
  | .normal=>Xhs n live st fun st=>Ud n live body f st c
  | e=>c e st:=by unfold Ud;exact (Classical.choose_spec Xje).2 n live body f st c
def Xe4:Code→Nat
 | .region id _ _=>id
 | .seq a _=>Xe4 a
 | .cond _ a _=>Xe4 a
 | .block _ a | .loop a | .scope a=>Xe4 a
 | _=>0
def ev0 (cfg:Cfg) (lv:Lev) (draw:Nat→List Oper→St→(St→R)→R) (f:FuncId):Code→St→(Exit→St→R)→R
 | .skip,st,c=>c .normal st
 | .label _,st,c=>c .normal st
 | .region id ops d,st,c=>match d with
   | false=>Xgs cfg lv ops.toList ops.toList st (c .normal)
   | true=>draw id ops.toList st (c .normal)
 | .seq a b,st,c=>ev0 cfg lv draw f a st fun e st=>match e with
   | .normal=>ev0 cfg lv draw f b st c
   | e=>c e st
 | .cond x a b,st,c=>opnd st.env x fun v=>match v with
   | .bool t=>br t (ev0 cfg lv draw f a st c) (ev0 cfg lv draw f b st c)
   | _=>none
 | .block id b,st,c=>ev0 cfg lv draw f b st fun e st=>match e with
   | .exit id'=>if id'=id then c .normal st else c (.exit id') st
   | e=>c e st
 | .loop b,st,c=>lenH st.heap fun n=>Xhs n (cfg.live f (Xe4 b)) st fun st=>Ud n (cfg.live f (Xe4 b)) (ev0 cfg lv draw f b) cfg.fuel st c
 | .exit id,st,c=>c (.exit id) st
 | .ret,st,c=>c .ret st
 | _,_,_=>none
theorem X3e:∃ f,f=ev0:=⟨_,rfl⟩
@[irreducible] noncomputable def ev:Cfg→Lev→(Nat→List Oper→St→(St→R)→R)→FuncId→Code→St→(Exit→St→R)→R:=Classical.choose X3e
theorem Xca:ev=ev0:=by unfold ev;exact Classical.choose_spec X3e
theorem Qv {cfg:Cfg} {lv:Lev} {draw:Nat→List Oper→St→(St→R)→R} {f:FuncId} {st:St} {c:Exit→St→R}:ev cfg lv draw f .skip st c=c .normal st:=by rw [Xca];rfl
theorem V2 {cfg:Cfg} {lv:Lev} {draw:Nat→List Oper→St→(St→R)→R} {f:FuncId} {st:St} {c:Exit→St→R} {id:Nat} {ops:Array Oper}:ev cfg lv draw f (.region id ops false) st c=Xu3 ops.toList fun l=>Xgs cfg lv l l st (c .normal):=by rw [Xca,Xlw];rfl
theorem Qw {cfg:Cfg} {lv:Lev} {draw:Nat→List Oper→St→(St→R)→R} {f:FuncId} {st:St} {c:Exit→St→R} {id:Nat} {ops:Array Oper}:ev cfg lv draw f (.region id ops true) st c=draw id ops.toList st (c .normal):=by rw [Xca];rfl
theorem Xcb {cfg:Cfg} {lv:Lev} {draw:Nat→List Oper→St→(St→R)→R} {f:FuncId} {st:St} {c:Exit→St→R} {a b:Code}:ev cfg lv draw f (.seq a b) st c=ev cfg lv draw f a st fun e st=>match e with
 | .normal=>ev cfg lv draw f b st c
 | e=>c e st:=by rw [Xca];rfl
theorem Qx {cfg:Cfg} {lv:Lev} {draw:Nat→List Oper→St→(St→R)→R} {f:FuncId} {st:St} {c:Exit→St→R} {x:Operand} {a b:Code}:ev cfg lv draw f (.cond x a b) st c=opnd st.env x fun v=>match v with
 | .bool t=>br t (ev cfg lv draw f a st c) (ev cfg lv draw f b st c)
 | _=>none:=by rw [Xca];rfl
theorem Up {cfg:Cfg} {lv:Lev} {draw:Nat→List Oper→St→(St→R)→R} {f:FuncId} {st:St} {c:Exit→St→R} {id:Nat} {b:Code}:ev cfg lv draw f (.block id b) st c=ev cfg lv draw f b st fun e st=>match e with
 | .exit id'=>if id'=id then c .normal st else c (.exit id') st
 | e=>c e st:=by rw [Xca];rfl
theorem Qy {cfg:Cfg} {lv:Lev} {draw:Nat→List Oper→St→(St→R)→R} {f:FuncId} {st:St} {c:Exit→St→R} {b:Code}:ev cfg lv draw f (.loop b) st c=lenH st.heap fun n=>Xhs n (cfg.live f (Xe4 b)) st fun st=>Ud n (cfg.live f (Xe4 b)) (ev cfg lv draw f b) cfg.fuel st c:=by rw [Xca];rfl
theorem Qz {cfg:Cfg} {lv:Lev} {draw:Nat→List Oper→St→(St→R)→R} {f:FuncId} {st:St} {c:Exit→St→R} {id:Nat}:ev cfg lv draw f (.exit id) st c=c (.exit id) st:=by rw [Xca];rfl
theorem Xcc {cfg:Cfg} {lv:Lev} {draw:Nat→List Oper→St→(St→R)→R} {f:FuncId} {st:St} {c:Exit→St→R}:ev cfg lv draw f .ret st c=c .ret st:=by rw [Xca];rfl
end
end Go.Abs
namespace Go.Abs
noncomputable section
def X3f (cfg:List (TypeId×TInfo)) (t:TypeId):Bool:=match cfg with
 | []=>false
 | (t',x)::l=>if t'=t then (match x.shape with | .bool | .int _ | .str=>true | _=>false) else X3f l t
def Xd9 (cfg:Cfg) (o:Oper):Bool:=match o.op with
 | .move x | .assign x=>match x with
   | .const (.slice _ _ _)=>false
   | _=>true
 | .pick _ _ _ | .fieldAddr _ _ _ | .field _ _ _ | .nilCheck _ | .binOp _ _ _ _ _ | .unOp _ _ _ | .extract _ _ | .index _ _ _ | .indexAddr _ _ _ | .load _ _=>true
 | .call c=>match c.callee with
   | .builtin b=>match b with
     | .len=>true
     | _=>false
   | .value g=>match g with
     | .func f=>match cfg.mode f with
       | 0=>X3f cfg.ty o.type
       | _=>false
     | _=>false
   | _=>false
 | _=>false
def valD (cfg:Cfg) (lv:Lev) (o:Oper) (e:List AV) (h:Heap) (k:AV→R):R:=match o.op with
 | .move x | .assign x=>opnd e x fun v=>match v with
   | .emp=>none
   | v=>k v
 | .pick x a b=>opnd e x fun v=>match v with
   | .bool t=>br t (opnd e a k) (opnd e b k)
   | _=>none
 | .load t a=>opnd e a fun v=>U4 cfg t h v k
 | .nilCheck x=>opnd e x fun v=>match v with
   | .ptr r p i j=>k (.ptr r p i j)
   | .fn f cs=>k (.fn f cs)
   | _=>none
 | .binOp op t x y _=>opnd e x fun a=>opnd e y fun b=>binOp cfg op t h a b k
 | .unOp op _ x=>opnd e x fun a=>unOp op a k
 | .fieldAddr s x f=>opnd e x fun v=>tyK cfg.ty s fun t=>match t.shape,v with
   | .struct fs,.ptr r p i j=>match fs[f]? with
     | some (off,ft)=>tyK cfg.ty ft fun y=>match y.size with
       | 0=>none
       | _=>k (.ptr r p i (j+off))
     | none=>none
   | _,_=>none
 | .field s x f=>opnd e x fun v=>tyK cfg.ty s fun t=>match t.shape,v with
   | .struct fs,.agg cs=>match fs[f]? with
     | some (off,ft)=>Xgq off cs fun cs=>tyK cfg.ty ft fun y=>match y.shape with
       | .struct _=>cut y.size cs fun cs _=>k (.agg cs)
       | _=>nth cs 0 k
     | none=>none
   | _,_=>none
 | .indexAddr t x i=>opnd e x fun v=>opnd e i fun w=>match w with
   | .int _ i=>Xe1 cfg t fun esz=>Xbe h v fun r p off len sz _=>match decide (sz=esz) with
     | true=>br (decide (0≤i)) (br (decide (i<(len:Int))) (match off with
       | 0=>k (.ptr r p i.toNat 0)
       | off=>k (.ptr r p (off+i.toNat) 0)) none) none
     | false=>none
   | _=>none
 | .index t x i=>tyK cfg.ty t fun ti=>match ti.shape with
   | .str=>opnd e x fun v=>opnd e i fun w=>match v,w with
     | .str s,.int _ i=>br (decide (0≤i)) (br (decide (i<(s.size:Int))) (k (.int .u8 ((s[i.toNat]?).getD 0).toNat)) none) none
     | _,_=>none
   | _=>none
 | .extract x i=>opnd e x fun v=>match v with
   | .tup vs=>nth vs i k
   | _=>none
 | .call cl=>Xbo e cl.args.toList fun vs=>match cl.callee with
   | .builtin b=>match b with
     | .len=>match cl.argTypes.toList,vs with
       | [t],[v]=>tyK cfg.ty t fun x=>match x.shape with
         | .str=>match v with
           | .str s=>k (.int .i64 s.size)
           | _=>none
         | .slice _=>match v with
           | .str _=>none
           | v=>Xe2 h v fun n=>k (.int .i64 n)
         | _=>none
       | _,_=>none
     | _=>none
   | .value g=>match g with
     | .func f=>match cfg.mode f with
       | 0=>Qu cfg h cl.argTypes.toList vs fun vs'=>bnd (lv.pure f vs') fun res=>match res.val with
         | .bool b=>k (.bool b)
         | .int kd n=>k (.int kd n)
         | .str s=>k (.str s)
         | _=>none
       | _=>none
     | _=>none
   | _=>none
 | _=>none
def Vh (e:Edge):Bool:=match e.ground with
 | .textOnly _ | .gcOnly _=>false
 | _=>true
def before (all:List Oper):Nat→Nat→Nat→Bool
 | 0,_,_=>false
 | n+1,i,j=>match all[i]? with
   | some o=>o.after.toList.any fun e=>Vh e&&(e.on==j||before all n e.on j)
   | none=>false
def Xcz (all:List Oper) (o:Oper) (d:Nat):Bool :=
 (o.op.operands.toList.any fun x=>match x with | .tmp t=>t==d | _=>false) ||
 (match o.guard with
  | some (g,_)=>(match all[g]? with | some p=>p.dst==some d | none=>false)
  | none=>false)
def apart (all:List Oper) (x y:Oper):Bool :=
 (match x.dst with
  | some d=>!Xcz all y d&&y.dst !=some d
  | none=>true) &&
 (match y.dst with
  | some d=>!Xcz all x d
  | none=>true)
def Xxy (e:Edge):Bool:=match e.ground with
 | .gcOnly _=>false
 | _=>true
def Xpt (e:Edge):Bool:=match e.ground with
 | .textOnly _=>false
 | _=>true
def Xea (g:Edge→Bool) (all:List Oper):List Nat→List Nat→Bool
 | _,[]=>true
 | done,i::rest=>(match all[i]? with
   | some o=>o.after.toList.all fun e=>!g e||done.contains e.on
   | none=>false)&&Xea g all (i::done) rest
def Xu7 (all:List Oper):Nat→List Nat→List Nat
 | 0,done=>done.reverse
 | n+1,done=>match (List.range all.length).find? fun i=>!done.contains i&&(match all[i]? with
  | some o=>o.after.toList.all fun e=>!Xpt e||done.contains e.on
  | none=>false) with
   | some i=>Xu7 all n (i::done)
   | none=>done.reverse
def Xam (all:List Oper):Bool:=Xea Xxy all [] (List.range all.length) &&
 (Xea Xpt all [] (Xu7 all all.length [])&&(List.range all.length).all fun i=>(Xu7 all all.length []).contains i)
def X3p (cfg:Cfg) (all:List Oper) (i:Nat) (o:Oper):Bool :=
 (List.range i).all fun j=>match all[j]? with
  | some p=>before all all.length i j||(Xd9 cfg p&&Xd9 cfg o&&apart all p o)
  | none=>false
def Xpu (cfg:Cfg) (all:List Oper):Bool:=(List.range all.length).all fun i=>match all[i]? with
 | some o=>X3p cfg all i o
 | none=>false
def Xbp (cfg:Cfg) (lv:Lev) (all:List Oper) (o:Oper) (st:St) (c:St→R):R:=match Xd9 cfg o with
 | true=>Xbf all o.guard st (valD cfg lv o st.env st.heap fun v=>putD st o.dst v c) (putD st o.dst (.tup []) c)
 | false=>Xbf all o.guard st (lenH st.heap fun slot=>evOp cfg lv slot o st c) (putD st o.dst (.tup []) c)
def Xpv (cfg:Cfg) (lv:Lev) (all:List Oper):List Oper→St→(St→R)→R
 | [],st,c=>c st
 | o::l,st,c=>Xbp cfg lv all o st fun st=>Xpv cfg lv all l st c
theorem Xob:∃ f,f=Xpv:=⟨_,rfl⟩
@[irreducible] noncomputable def Xg4:Cfg→Lev→List Oper→List Oper→St→(St→R)→R:=Classical.choose Xob
theorem Xlx:Xg4=Xpv:=by unfold Xg4;exact Classical.choose_spec Xob
theorem Vc {cfg:Cfg} {lv:Lev} {all:List Oper} {st:St} {c:St→R}:Xg4 cfg lv all [] st c=c st:=by rw [Xlx];rfl
theorem Wl {cfg:Cfg} {lv:Lev} {all:List Oper} {o:Oper} {l:List Oper} {st:St} {c:St→R}:Xg4 cfg lv all (o::l) st c=Xbp cfg lv all o st fun st=>Xg4 cfg lv all l st c:=by rw [Xlx];rfl
theorem Xs9:∃ (f:St→Res) (g:Res→St),∀ st,g (f st)=st:=by
 let encRoot:Option Root→AV:=fun x=>match x with
  | none=>.undef
  | some ⟨ro,virt,box,sz,rows⟩=>.tup [.bool ro,.bool virt,.bool box,.lst sz rows]
 let decRoot:AV→Option Root:=fun v=>match v with
  | .tup [.bool ro,.bool virt,.bool box,.lst sz rows]=>some ⟨ro,virt,box,sz,rows⟩
  | _=>none
 let decRow:AV→List AV:=fun v=>match v with
  | .tup l=>l
  | _=>[]
 refine ⟨fun st=>⟨.tup st.env,[.tup (st.stk.map .tup),.tup (st.heap.map encRoot)]⟩,fun r=>match r with
  | ⟨.tup e,[.tup s,.tup h]⟩=>⟨e,s.map decRow,h.map decRoot⟩
  | _=>⟨[],[],[]⟩,?_⟩
 rintro ⟨e,s,h⟩
 have h1:(s.map AV.tup).map decRow=s:=by
  rw [List.map_map]
  exact (List.map_congr_left (fun x _=>rfl)).trans (List.map_id s)
 have h2:(h.map encRoot).map decRoot=h:=by
  rw [List.map_map]
  refine (List.map_congr_left (g:=id) (fun x _=>?_)).trans (List.map_id h)
  rcases x with _ | ⟨ro,virt,box,sz,rows⟩ <;> rfl
 simp only [h1,h2]
@[irreducible] def encI:St→Res:=Classical.choose Xs9
@[irreducible] def decI:Res→St:=Classical.choose (Classical.choose_spec Xs9)
theorem Xu8 (st:St):decI (encI st)=st:=by unfold decI encI;exact Classical.choose_spec (Classical.choose_spec Xs9) st
@[irreducible] def bndS (x:R) (k:St→R):R:=bnd x fun r=>k (decI r)
theorem Xxz {x:R} {k:St→R} {st:St} (h:x=some (encI st)):bndS x k=k st:=by
 unfold bndS;rw [h,Xez,Xu8]
@[irreducible] def eqS (a b:St) (x:R):R:=open Classical in if a=b then x else none
theorem Xly (a:St) (x:R):eqS a a x=x:=by unfold eqS;rw [if_pos rfl]
def Ym:List Bool→Nat→Bool
 | [],_=>true
 | b::_,0=>b
 | _::l,n+1=>Ym l n
def bset:List Bool→Nat→List Bool
 | [],_=>[]
 | _::l,0=>true::l
 | b::l,n+1=>b::bset l n
def eqB:List Bool→List Bool→Bool
 | [],[]=>true
 | true::a,true::b=>eqB a b
 | false::a,false::b=>eqB a b
 | _,_=>false
def Xan (d:List Bool):List Edge→Bool
 | []=>true
 | e::l=>match Vh e with
   | false=>Xan d l
   | true=>match Ym d e.on with
     | true=>Xan d l
     | false=>false
def Xx0:List (List AV)→(List (List AV)→R)→R
 | [],k=>k []
 | e::l,k=>Xx0 l fun l=>k (e::l)
def Xu9:Heap→(Heap→R)→R
 | [],k=>k []
 | x::l,k=>Xu9 l fun l=>k (x::l)
def Xg5 (st:St) (k:St→R):R:=match st with
 | ⟨e,s,h⟩=>Xx0 s fun s=>Xu9 h fun h=>k ⟨e,s,h⟩
abbrev Lvl:=List (List Bool×St)
def Xg6:List Oper→List Bool
 | []=>[]
 | _::l=>false::Xg6 l
def Xpw:List Oper→(List Bool→R)→R
 | [],k=>k []
 | _::l,k=>Xpw l fun d=>k (false::d)
def Xpx (o:Oper):Option Tmp:=match o.op with
 | .move x=>match x with
   | .tmp t=>some t
   | _=>none
 | .nilCheck x=>match x with
   | .tmp t=>some t
   | _=>none
 | .fieldAddr _ x _=>match x with
   | .tmp t=>some t
   | _=>none
 | .load _ x=>match x with
   | .tmp t=>some t
   | _=>none
 | _=>none
def hasE (o:Oper) (j:Nat):Bool:=o.after.toList.any fun e=>e.on==j&&Vh e
def Xta (all:List Oper) (i:Nat) (o:Oper) (t x:Tmp) (j:Nat) (p:Oper):Bool :=
 j==i||((p.dst !=some t)&&((p.dst !=some x||hasE o j)&&(!Xcz all p t||hasE p i)))
def Xva (all:List Oper) (i:Nat) (o:Oper) (t x:Tmp):Nat→List Oper→Bool
 | _,[]=>true
 | j,p::l=>match Xta all i o t x j p with
   | true=>Xva all i o t x (j+1) l
   | false=>false
def lzOp (all:List Oper) (i:Nat) (o:Oper):Bool:=match o.guard with
 | some _=>false
 | none=>match o.dst with
   | none=>false
   | some t=>match Xpx o with
     | none=>false
     | some x=>match t==x with
       | true=>false
       | false=>Xva all i o t x 0 all
def lzK (all:List Oper):Nat→List Oper→(List Bool→R)→R
 | _,[],k=>k []
 | i,o::l,k=>match lzOp all i o with
   | true=>lzK all (i+1) l fun z=>k (true::z)
   | false=>lzK all (i+1) l fun z=>k (false::z)
def Xkj (z d:List Bool):Nat→List Oper→Option (Nat×Oper)
 | _,[]=>none
 | i,o::l=>match Ym z i with
   | false=>Xkj z d (i+1) l
   | true=>match Ym d i with
     | true=>Xkj z d (i+1) l
     | false=>match Xan d o.after.toList with
       | true=>some (i,o)
       | false=>Xkj z d (i+1) l
def Xbq (all:List Oper) (z:List Bool):List Oper→List Bool→List (Nat×Oper)
 | [],_=>[]
 | _::n,d=>match Xkj z d 0 all with
   | none=>[]
   | some (i,o)=>(i,o)::Xbq all z n (bset d i)
def Xdd:List Bool→List (Nat×Oper)→List Bool
 | d,[]=>d
 | d,(i,_)::L=>Xdd (bset d i) L
def Xjf:List Bool→(List Bool→R)→R
 | [],k=>k []
 | b::l,k=>match b with
   | true=>Xjf l fun l=>k (true::l)
   | false=>Xjf l fun l=>k (false::l)
def allB:List Bool→Bool
 | []=>true
 | b::l=>match b with
   | true=>allB l
   | false=>false
def Xe5 (d:List Bool):Nat→List Oper→List (Nat×Oper)
 | _,[]=>[]
 | i,o::l=>match Ym d i with
   | true=>Xe5 d (i+1) l
   | false=>match Xan d o.after.toList with
     | false=>Xe5 d (i+1) l
     | true=>(i,o)::Xe5 d (i+1) l
def Xvb (d:List Bool):Lvl→Option St
 | []=>none
 | (d',st)::l=>match eqB d' d with
   | true=>some st
   | false=>Xvb d l
def addT (d:List Bool) (st:St) (acc:Lvl) (k:Lvl→R):R:=match Xvb d acc with
 | some st'=>eqS st' st (k acc)
 | none=>k (acc++[(d,st)])
def Xx1 (cfg:Cfg) (lv:Lev) (slot:Nat):List (Nat×Oper)→St→(St→R)→R
 | [],st,k=>k st
 | (i,o)::L,st,k=>evOp cfg lv (slot+i) o st fun st=>Xx1 cfg lv slot L st k
theorem Xvc:∃ f,f=Xx1:=⟨_,rfl⟩
@[irreducible] def runZ:Cfg→Lev→Nat→List (Nat×Oper)→St→(St→R)→R:=Classical.choose Xvc
theorem Xx2:runZ=Xx1:=by unfold runZ;exact Classical.choose_spec Xvc
def Xx3 (cfg:Cfg) (lv:Lev) (slot:Nat) (L:List (Nat×Oper)) (st:St) (k:St→R):R:=match L with
 | []=>k st
 | (i,o)::L=>evOp cfg lv (slot+i) o st fun st=>runZ cfg lv slot L st k
theorem Xjg (cfg:Cfg) (lv:Lev) (slot:Nat) (L:List (Nat×Oper)) (st:St) (k:St→R):runZ cfg lv slot L st k=Xx3 cfg lv slot L st k:=by
 unfold Xx3;rw [Xx2]
 cases L <;> rfl
def Xe6 (z d:List Bool) (oi:Oper):Nat→List Oper→List (Nat×Oper)
 | _,[]=>[]
 | j,p::l=>match Ym z j with
   | false=>Xe6 z d oi (j+1) l
   | true=>match Ym d j with
     | false=>Xe6 z d oi (j+1) l
     | true=>match hasE oi j with
       | true=>Xe6 z d oi (j+1) l
       | false=>(j,p)::Xe6 z d oi (j+1) l
def Xx4 (cfg:Cfg) (lv:Lev) (slot:Nat):List (Nat×Oper)→St→R→R
 | [],_,k=>k
 | (j,p)::L,st,k=>evOp cfg lv (slot+j) p st fun s=>eqS s st (Xx4 cfg lv slot L st k)
theorem Xvd:∃ f,f=Xx4:=⟨_,rfl⟩
@[irreducible] def chkZ:Cfg→Lev→Nat→List (Nat×Oper)→St→R→R:=Classical.choose Xvd
theorem Xx5:chkZ=Xx4:=by unfold chkZ;exact Classical.choose_spec Xvd
def Xx6 (cfg:Cfg) (lv:Lev) (slot:Nat) (L:List (Nat×Oper)) (st:St) (k:R):R:=match L with
 | []=>k
 | (j,p)::L=>evOp cfg lv (slot+j) p st fun s=>eqS s st (chkZ cfg lv slot L st k)
theorem Xlz (cfg:Cfg) (lv:Lev) (slot:Nat) (L:List (Nat×Oper)) (st:St) (k:R):chkZ cfg lv slot L st k=Xx6 cfg lv slot L st k:=by
 unfold Xx6;rw [Xx5]
 cases L <;> rfl
def Xoc (cfg:Cfg) (lv:Lev) (all:List Oper) (z:List Bool) (slot:Nat) (d:List Bool) (i:Nat) (o:Oper) (st:St):R :=
 Xbf all o.guard st (evOp cfg lv (slot+i) o st fun st=>Xg5 st fun st=>chkZ cfg lv slot (Xe6 z d o 0 all) st (runZ cfg lv slot (Xbq all z all (bset d i)) st fun st=>some (encI st)))
  (putD st o.dst (.tup []) fun st=>Xg5 st fun st=>chkZ cfg lv slot (Xe6 z d o 0 all) st (runZ cfg lv slot (Xbq all z all (bset d i)) st fun st=>some (encI st)))
def Xx7 (cfg:Cfg) (lv:Lev) (all:List Oper) (z:List Bool) (slot:Nat) (d:List Bool) (st:St):List (Nat×Oper)→Lvl→(Lvl→R)→R
 | [],acc,k=>k acc
 | (i,o)::L,acc,k=>bndS (Xoc cfg lv all z slot d i o st) fun st'=>Xg5 st' fun st'=>Xjf (Xdd (bset d i) (Xbq all z all (bset d i))) fun d'=>addT d' st' acc fun acc=>Xx7 cfg lv all z slot d st L acc k
theorem Xve:∃ f,f=Xx7:=⟨_,rfl⟩
@[irreducible] def expZ:Cfg→Lev→List Oper→List Bool→Nat→List Bool→St→List (Nat×Oper)→Lvl→(Lvl→R)→R:=Classical.choose Xve
theorem Xx8:expZ=Xx7:=by unfold expZ;exact Classical.choose_spec Xve
def Xx9 (cfg:Cfg) (lv:Lev) (all:List Oper) (z:List Bool) (slot:Nat) (d:List Bool) (st:St) (L:List (Nat×Oper)) (acc:Lvl) (k:Lvl→R):R:=match L with
 | []=>k acc
 | (i,o)::L=>bndS (Xoc cfg lv all z slot d i o st) fun st'=>Xg5 st' fun st'=>Xjf (Xdd (bset d i) (Xbq all z all (bset d i))) fun d'=>addT d' st' acc fun acc=>expZ cfg lv all z slot d st L acc k
theorem Xl0 (cfg:Cfg) (lv:Lev) (all:List Oper) (z:List Bool) (slot:Nat) (d:List Bool) (st:St) (L:List (Nat×Oper)) (acc:Lvl) (k:Lvl→R):expZ cfg lv all z slot d st L acc k=Xx9 cfg lv all z slot d st L acc k:=by
 unfold Xx9;rw [Xx8]
 cases L <;> rfl
def Xya (cfg:Cfg) (lv:Lev) (all:List Oper) (z:List Bool) (slot:Nat):Lvl→Lvl→(Lvl→R)→R
 | [],acc,k=>k acc
 | (d,st)::l,acc,k=>match allB d with
   | true=>none
   | false=>expZ cfg lv all z slot d st (Xe5 d 0 all) acc fun acc=>Xya cfg lv all z slot l acc k
theorem Xvf:∃ f,f=Xya:=⟨_,rfl⟩
@[irreducible] def lvlZ:Cfg→Lev→List Oper→List Bool→Nat→Lvl→Lvl→(Lvl→R)→R:=Classical.choose Xvf
theorem Xyb:lvlZ=Xya:=by unfold lvlZ;exact Classical.choose_spec Xvf
def Xyc (cfg:Cfg) (lv:Lev) (all:List Oper) (z:List Bool) (slot:Nat) (l acc:Lvl) (k:Lvl→R):R:=match l with
 | []=>k acc
 | (d,st)::l=>match allB d with
   | true=>none
   | false=>expZ cfg lv all z slot d st (Xe5 d 0 all) acc fun acc=>lvlZ cfg lv all z slot l acc k
theorem Xl1 (cfg:Cfg) (lv:Lev) (all:List Oper) (z:List Bool) (slot:Nat) (l acc:Lvl) (k:Lvl→R):lvlZ cfg lv all z slot l acc k=Xyc cfg lv all z slot l acc k:=by
 unfold Xyc;rw [Xyb]
 cases l <;> rfl
def Xht:Lvl→Option St
 | []=>none
 | (d,st)::l=>match l with
   | []=>match allB d with
     | true=>some st
     | false=>none
   | _=>none
def evZ0 (cfg:Cfg) (lv:Lev) (all:List Oper) (z:List Bool) (slot:Nat):List Oper→Lvl→(St→R)→R
 | [],l,c=>match Xht l with
   | some st=>c st
   | none=>none
 | _::n,l,c=>match Xht l with
   | some st=>c st
   | none=>lvlZ cfg lv all z slot l [] fun l=>evZ0 cfg lv all z slot n l c
theorem Xyd:∃ f,f=evZ0:=⟨_,rfl⟩
@[irreducible] def evZ:Cfg→Lev→List Oper→List Bool→Nat→List Oper→Lvl→(St→R)→R:=Classical.choose Xyd
theorem X02:evZ=evZ0:=by unfold evZ;exact Classical.choose_spec Xyd
def evZT (cfg:Cfg) (lv:Lev) (all:List Oper) (z:List Bool) (slot:Nat) (n:List Oper) (l:Lvl) (c:St→R):R:=match Xht l with
 | some st=>c st
 | none=>match n with
   | []=>none
   | _::n=>lvlZ cfg lv all z slot l [] fun l=>evZ cfg lv all z slot n l c
theorem Xq9 (cfg:Cfg) (lv:Lev) (all:List Oper) (z:List Bool) (slot:Nat) (n:List Oper) (l:Lvl) (c:St→R):evZ cfg lv all z slot n l c=evZT cfg lv all z slot n l c:=by
 unfold evZT;rw [X02]
 cases n <;> rfl
def padN:List Oper→(Heap→R)→R
 | [],k=>k []
 | _::l,k=>padN l fun h=>k (none::h)
def padH (all:List Oper):Heap→(Heap→R)→R
 | [],k=>padN all k
 | x::l,k=>padH all l fun h=>k (x::h)
def X3g (b:Bool) (all:List Oper) (st:St) (k:St→R):R:=match b with
 | false=>k st
 | true=>match st with
   | ⟨e,s,h⟩=>padH all h fun h=>k ⟨e,s,h⟩
def Xpy (cfg:Cfg) (lv:Lev) (f:FuncId) (id:Nat) (all:List Oper) (st:St) (c:St→R):R:=match cfg.calm f id with
 | true=>Xu3 all fun l=>Xg4 cfg lv l l st c
 | false=>lenH st.heap fun slot=>X3g (cfg.pad f id) all st fun st=>lzK all 0 all fun z=>Xpw all fun d=>runZ cfg lv slot (Xbq all z all d) st fun st=>Xg5 st fun st =>
  Xjf (Xdd d (Xbq all z all d)) fun d=>evZ cfg lv all z slot all [(d,st)] c
def V3 (cfg:Cfg) (f:FuncId):Code→Bool
 | .region id ops d=>!d||(Xam ops.toList&&(!cfg.calm f id||Xpu cfg ops.toList))
 | .seq a b=>V3 cfg f a&&V3 cfg f b
 | .cond _ a b=>V3 cfg f a&&V3 cfg f b
 | .block _ a=>V3 cfg f a
 | .loop a=>V3 cfg f a
 | _=>true
def atN {α:Type}:List (Nat×α)→Nat→α→α
 | [],_,z=>z
 | (n,x)::l,m,z=>if n=m then x else atN l m z
def Xe7 (cfg:Cfg) (st:St):List ResultVar→(List AV→R)→R
 | [],k=>k []
 | x::l,k=>match x with
   | .tmp t=>getE st.env t fun v=>Xe7 cfg st l fun vs=>k (v::vs)
   | .cell a t=>getE st.env a fun v=>U4 cfg t st.heap v fun v=>Xe7 cfg st l fun vs=>k (v::vs)
def one (vs:List AV) (k:AV→R):R:=match vs with
 | [v]=>k v
 | vs=>k (.tup vs)
def body (cfg:Cfg) (lv:Lev) (f:FuncId) (fn:Func) (args:List AV) (stk:List (List AV)) (h:Heap) (k:AV→St→R):R :=
 match fn.body with
 | none=>none
 | some b=>undefs (fn.ntmps - args.length) fun u=>cat args u fun e=>ev cfg lv (Xpy cfg lv f) f b ⟨e,stk,h⟩ fun e st=>match e with
   | .normal=>Xe7 cfg st fn.results.toList fun vs=>one vs fun v=>k v st
   | .ret=>Xe7 cfg st fn.results.toList fun vs=>one vs fun v=>k v st
   | _=>none
def Xtb (cfg:Cfg) (lv:Lev) (f:FuncId) (args:List AV) (st:St) (k:AV→St→R):R :=
 fnK cfg.fn f fun fn=>body cfg lv f fn args (st.env::st.stk) st.heap fun v st=>match st.stk with
  | e::s=>k v ⟨e,s,st.heap⟩
  | []=>none
def eqPa:Path→Path→Bool
 | [],[]=>true
 | (i,j)::p,(i',j')::p'=>i==i'&&j==j'&&eqPa p p'
 | _,_=>false
def Xvg (cs:List AV) (k:AV→List AV→R) (k0:R):R:=match cs with
 | .tup bl::rest=>match bl with
   | [b]=>k b rest
   | _=>none
 | _=>k0
def X3h (cfg:Cfg) (f:FuncId) (v:AV) (st:St):R:=match st.stk with
 | [[.ptr r [] i j]]=>getH st.heap r fun x=>match x with
   | ⟨ro,virt,box,_,_⟩=>match ro,virt,box with
     | false,false,true=>U4 cfg (cfg.ioT f) st.heap (.ptr r [] i j) fun u=>match u with
       | .agg us=>taL0 us st fun out st=>match st.stk with
         | [[.ptr r [] _ _]]=>getH st.heap r fun x=>match x with
           | ⟨ro,virt,box,_,_⟩=>match ro,virt,box with
             | false,false,true=>match Xn9 v with
               | true=>some ⟨v,out⟩
               | false=>none
             | _,_,_=>none
         | _=>none
       | _=>none
     | _,_,_=>none
 | _=>none
def Xye (cfg:Cfg) (f:FuncId) (v:AV) (st:St):R:=match st.stk with
 | [[.ptr r [] i j,.ref r0 p0]]=>getH st.heap r fun x=>match x with
   | ⟨ro,virt,box,_,_⟩=>match ro,virt,box with
     | false,false,true=>U4 cfg (cfg.ioT f) st.heap (.ptr r [] i j) fun u=>match u with
       | .agg us=>match us with
         | .ref r1 p1::us=>match r1==r0&&eqPa p1 p0 with
           | true=>taL0 us st fun out st=>match st.stk with
             | [[.ptr r [] _ _,_]]=>getH st.heap r fun x=>match x with
               | ⟨ro,virt,box,_,_⟩=>match ro,virt,box with
                 | false,false,true=>match Xn9 v with
                   | true=>some ⟨v,out⟩
                   | false=>none
                 | _,_,_=>none
             | _=>none
           | false=>none
         | _=>none
       | _=>none
     | _,_,_=>none
 | _=>none
def Xl2 (cfg:Cfg) (lv:Lev) (f:FuncId) (fn:Func) (m:Nat) (args:List AV):R:=Xe3 m args fun va p vb=>match p with
 | .pv cs=>Xvg cs (fun bl rest=>opL1 0 va [] fun va row=>opL1 0 vb row fun vb row=>opL1 0 [bl] row fun ns row=>match ns with
  | [.ref r0 p0]=>cat va (.ptr 1 [] 0 0::vb) fun vs =>
    body cfg lv f fn vs [[.ptr 1 [] 0 0,.ref r0 p0]] [some ⟨true,true,true,0,[row]⟩,some ⟨false,false,true,rest.length+1,[.ref r0 p0::rest]⟩] fun v st=>Xye cfg f v st
  | _=>none)
   (opL1 0 va [] fun va row=>opL1 0 vb row fun vb row=>cat va (.ptr 1 [] 0 0::vb) fun vs =>
    body cfg lv f fn vs [[.ptr 1 [] 0 0]] [some ⟨true,true,true,0,[row]⟩,some ⟨false,false,true,cs.length,[cs]⟩] fun v st=>X3h cfg f v st)
 | _=>none
def Xc0 (cfg:Cfg) (lv:Lev) (f:FuncId) (args:List AV):R:=match cfg.mode f with
 | m+2=>fnK cfg.fn f fun fn=>Xl2 cfg lv f fn m args
 | _=>match cfg.ext f with
   | some e=>e args
   | none=>fnK cfg.fn f fun fn=>Xhp true args fun vs h=>body cfg lv f fn vs [] h fun v st=>match cfg.own f with
     | true=>ta2 v st fun v _=>some ⟨v,[]⟩
     | false=>none
def lev (cfg:Cfg):Nat→Lev
 | 0=>⟨fun _ _=>none,fun _ _ _ _=>none⟩
 | n+1=>⟨Xc0 cfg (lev cfg n),Xtb cfg (lev cfg n)⟩
@[irreducible] def callP (cfg:Cfg) (n:Nat) (f:FuncId) (args:List AV):R:=(lev cfg n).pure f args
theorem Xa (cfg:Cfg) (n:Nat) (f:FuncId) (args:List AV):callP cfg (n+1) f args=Xc0 cfg (lev cfg n) f args:=by unfold callP;rfl
end
end Go.Abs
namespace Go.Abs
theorem Uq {l:List AV} {n:Nat} {k:AV→R} {r:Res} (h:getE l n k=some r):∃ a,l[n]?=some a∧k a=some r:=by
 induction l generalizing n with
 | nil=>simp [getE] at h
 | cons a l ih =>
   cases n with
   | zero=>exact ⟨a,rfl,h⟩
   | succ n=>simpa using ih h
theorem Ur {l:Rows} {n:Nat} {k:List AV→R} {r:Res} (h:Z6 l n k=some r):∃ a,l[n]?=some a∧k a=some r:=by
 induction l generalizing n with
 | nil=>simp [Z6] at h
 | cons a l ih =>
   cases n with
   | zero=>exact ⟨a,rfl,h⟩
   | succ n=>simpa using ih h
theorem Xhu {l:List AV} {n:Nat} {v:AV} {k:List AV→R} {r:Res} (h:setE l n v k=some r):n<l.length∧k (l.set n v)=some r:=by
 induction l generalizing n k with
 | nil=>simp [setE] at h
 | cons a l ih =>
   cases n with
   | zero=>exact ⟨by simp,h⟩
   | succ n=>obtain ⟨h1,h2⟩:=ih h;exact ⟨by simpa using h1,h2⟩
theorem Xf9 {l:Rows} {i j:Nat} {v:AV} {k:Rows→R} {r:Res} (h:Ve l i j v k=some r) :
 ∃ row,l[i]?=some row∧j<row.length∧k (l.set i (row.set j v))=some r:=by
 induction l generalizing i k with
 | nil=>simp [Ve] at h
 | cons a l ih =>
   cases i with
   | zero=>obtain ⟨h1,h2⟩:=Xhu h;exact ⟨a,rfl,h1,h2⟩
   | succ i=>obtain ⟨row,h1,h2,h3⟩:=ih h;exact ⟨row,by simpa using h1,h2,h3⟩
theorem Xvh {l:List AV} {n:Nat} {v:AV} {k:List AV→R} (h:n<l.length):setE l n v k=k (l.set n v):=by
 induction l generalizing n k with
 | nil=>simp at h
 | cons a l ih =>
   cases n with
   | zero=>rfl
   | succ n=>simp only [setE];rw [ih (by simpa using h)];rfl
theorem Xra {l:Rows} {i j:Nat} {v:AV} {k:Rows→R} {row:List AV} (h:l[i]?=some row) (hj:j<row.length) :
 Ve l i j v k=k (l.set i (row.set j v)):=by
 induction l generalizing i k with
 | nil=>simp at h
 | cons a l ih =>
   cases i with
   | zero=>simp only [List.getElem?_cons_zero,Option.some.injEq] at h;subst h;simp only [Ve];rw [Xvh hj];rfl
   | succ i=>simp only [Ve];rw [ih (by simpa using h)];rfl
theorem Ug {l:Heap} {n:Nat} {k:Root→R} {r:Res} (h:getH l n k=some r):∃ x,l[n]?=some (some x)∧k x=some r:=by
 induction l generalizing n with
 | nil=>simp [getH] at h
 | cons a l ih =>
   cases n with
   | zero=>cases a with
     | none=>simp [getH] at h
     | some x=>exact ⟨x,rfl,h⟩
   | succ n=>simpa using ih h
def put (h:Heap) (n:Nat) (v:Option Root):Heap:=match h,n with
 | [],0=>[v]
 | [],n+1=>none::put [] n v
 | _::l,0=>v::l
 | a::l,n+1=>a::put l n v
theorem Xe8 {l:Heap} {n:Nat} {v:Option Root} {k:Heap→R} {r:Res} (h:setH l n v k=some r):k (put l n v)=some r:=by
 induction n generalizing l k with
 | zero=>cases l <;> simpa [setH,put] using h
 | succ n ih=>cases l with
   | nil=>simp only [setH] at h;simpa [put] using ih h
   | cons a l=>simp only [setH] at h;simpa [put] using ih h
theorem Wv (h:Heap) (n m:Nat) (v:Option Root):(put h n v)[m]?.join=if m=n then v else h[m]?.join:=by
 induction n generalizing h m with
 | zero=>cases h <;> cases m <;> simp [put]
 | succ n ih=>cases h with
   | nil=>cases m with
     | zero=>simp [put]
     | succ m=>simp [put,ih]
   | cons a l=>cases m with
     | zero=>simp [put]
     | succ m=>simp [put,ih]
theorem Xhv {l:Heap} {k:Nat→R} {r:Res} (h:lenH l k=some r):k l.length=some r:=by
 induction l generalizing k with
 | nil=>exact h
 | cons a l ih=>simpa using ih h
theorem Xyf {p:Path} {i j:Nat} {k:Path→R} {r:Res} (h:snoc p i j k=some r):k (p++[(i,j)])=some r:=by
 induction p generalizing k with
 | nil=>exact h
 | cons a p ih=>simpa using ih h
theorem Xvi {n:Nat} {l:List AV} {k:List AV→List AV→R} {r:Res} (h:cut n l k=some r):n≤l.length∧k (l.take n) (l.drop n)=some r:=by
 induction n generalizing l k with
 | zero=>exact ⟨Nat.zero_le _,by simpa [cut] using h⟩
 | succ n ih=>cases l with
   | nil=>simp [cut] at h
   | cons a l=>obtain ⟨h1,h2⟩:=ih h;exact ⟨by simpa using h1,by simpa using h2⟩
theorem Xa4 {x l:List AV} {k:List AV→R} {r:Res} (h:cat x l k=some r):k (x++l)=some r:=by
 induction x generalizing k with
 | nil=>exact h
 | cons a x ih=>simpa using ih h
theorem Xtc {n:Nat} {k:List AV→R} {r:Res} (h:undefs n k=some r):k (List.replicate n .undef)=some r:=by
 induction n generalizing k with
 | zero=>exact h
 | succ n ih=>simpa [List.replicate_succ] using ih h
theorem Xga {n:Nat} {l:List AV} {k:List AV→R} {r:Res} (h:Xgq n l k=some r):n≤l.length∧k (l.drop n)=some r:=by
 induction n generalizing l with
 | zero=>exact ⟨Nat.zero_le _,by simpa [Xgq] using h⟩
 | succ n ih=>cases l with
   | nil=>simp [Xgq] at h
   | cons a l=>obtain ⟨h1,h2⟩:=ih h;exact ⟨by simpa using h1,by simpa using h2⟩
def resR:Path→Nat→Rows→Option (Nat×Rows)
 | [],sz,rows=>some (sz,rows)
 | (i,j)::p,_,rows=>match rows[i]? with
   | none=>none
   | some row=>match row[j]? with
     | some (.lst sz rows')=>resR p sz rows'
     | _=>none
theorem Xyg {p:Path} {sz:Nat} {rows:Rows} {k:Nat→Rows→R} {r:Res} (h:Xdm p sz rows k=some r) :
 ∃ sz' rows',resR p sz rows=some (sz',rows')∧k sz' rows'=some r:=by
 induction p generalizing sz rows with
 | nil=>exact ⟨sz,rows,rfl,h⟩
 | cons q p ih =>
   obtain ⟨i,j⟩:=q
   obtain ⟨row,h1,h⟩:=Ur h
   obtain ⟨a,h2,h⟩:=Uq h
   cases a <;> simp at h
   obtain ⟨s,t,h3,h4⟩:=ih h
   exact ⟨s,t,by simp [resR,h1,h2,h3],h4⟩
def res (h:Heap) (r:Nat) (p:Path):Option (Root×Nat×Rows):=match h[r]?.join with
 | none=>none
 | some x=>match resR p x.sz x.rows with
   | none=>none
   | some (sz,rows)=>some (x,sz,rows)
theorem Ul {h:Heap} {n:Nat} {p:Path} {k:Root→Nat→Rows→R} {r:Res} (hh:nav h n p k=some r) :
 ∃ x sz rows,res h n p=some (x,sz,rows)∧k x sz rows=some r:=by
 obtain ⟨x,h1,hh⟩:=Ug hh
 rw [Xpn] at hh
 obtain ⟨sz,rows,h2,h3⟩:=Xyg hh
 exact ⟨x,sz,rows,by simp [res,h1,h2],h3⟩
def updR:Path→Rows→Rows→Rows
 | [],_,new=>new
 | (i,j)::p,rows,new=>match rows[i]? with
   | none=>rows
   | some row=>match row[j]? with
     | some (.lst sz rows')=>rows.set i (row.set j (.lst sz (updR p rows' new)))
     | _=>rows
theorem Xyh {p:Path} {rows:Rows} {f:Rows→(Rows→R)→R} {k:Rows→R} {r:Res} (h:Xn7 p rows f k=some r) :
 ∃ sz rows',resR p 0 rows=some (sz,rows')∧f rows' (fun new=>k (updR p rows new))=some r:=by
 induction p generalizing rows k with
 | nil=>exact ⟨0,rows,rfl,h⟩
 | cons q p ih =>
   obtain ⟨i,j⟩:=q
   obtain ⟨row,h1,h⟩:=Ur h
   obtain ⟨a,h2,h⟩:=Uq h
   cases a <;> simp at h
   rename_i sz rows'
   obtain ⟨s,t,h3,h4⟩:=ih h
   have hj:j<row.length:=(List.getElem?_eq_some_iff.1 h2).1
   refine ⟨if p=[] then sz else s,t,?_,?_⟩
   ·simp only [resR,h1,h2]
    cases p with
    | nil=>simp only [resR,Option.some.injEq,Prod.mk.injEq] at h3 ⊢;exact ⟨by simp,h3.2⟩
    | cons q' p'=>simpa [resR] using h3
   ·have e:(fun new=>Ve rows i j (.lst sz (updR p rows' new)) k)=fun new=>k (updR ((i,j)::p) rows new):=by
     funext new
     rw [Xra h1 hj]
     simp only [updR,h1,h2]
    rw [e] at h4
    exact h4
theorem Xwo {p:Path} {rows:Rows} {k:Nat→Rows→Rows→R} {r:Res} (h:Xn8 p rows k=some r) :
 ∃ p' i j sz sz' rows' row t,p=p'++[(i,j)]∧resR p' 0 rows=some (sz',rows')∧rows'[i]?=some row∧row[j]?=some (.lst sz t) ∧
  k sz t (updR p' rows (rows'.set i (row.set j .undef)))=some r:=by
 induction p generalizing rows k with
 | nil=>simp [Xn8] at h
 | cons q p ih =>
   obtain ⟨i,j⟩:=q
   cases p with
   | nil =>
     simp only [Xn8] at h
     obtain ⟨row,h1,h⟩:=Ur h
     obtain ⟨a,h2,h⟩:=Uq h
     cases a <;> simp at h
     rename_i sz t
     obtain ⟨row',h3,_,h5⟩:=Xf9 h
     rw [h1] at h3
     cases h3
     exact ⟨[],i,j,sz,0,rows,row,t,rfl,rfl,h1,h2,h5⟩
   | cons q' p =>
     simp only [Xn8] at h
     obtain ⟨row,h1,h⟩:=Ur h
     obtain ⟨a,h2,h⟩:=Uq h
     cases a <;> simp at h
     rename_i szl rows1
     obtain ⟨p',i',j',sz,sz',rows',row',t,e,h3,h4,h5,h6⟩:=ih h
     have hj:j<row.length:=(List.getElem?_eq_some_iff.1 h2).1
     rw [Xra h1 hj] at h6
     refine ⟨(i,j)::p',i',j',sz,if p'=[] then szl else sz',rows',row',t,by rw [e];rfl,?_,h4,h5,?_⟩
     ·simp only [resR,h1,h2]
      cases p' with
      | nil=>simp only [resR,Option.some.injEq,Prod.mk.injEq] at h3 ⊢;exact ⟨by simp,h3.2⟩
      | cons q'' p''=>simpa [resR] using h3
     ·simpa only [updR,h1,h2] using h6
end Go.Abs
namespace Go.Abs
abbrev BS:=Nat→Prop
abbrev CS:=Nat→Nat→Prop
inductive TR (w:World) (own:Bool) (K:CS):BS→Value→AV→Prop
 | bool {S:BS} (b:Bool):TR w own K S (.bool b) (.bool b)
 | int {S:BS} (k:IntKind) (n:Int):TR w own K S (.int k n) (.int k n)
 | str {S:BS} (s:ByteArray):TR w own K S (.string s) (.str s)
 | nilp {S:BS}:TR w own K S (.pointer none) .nilp
 | nilf {S:BS}:TR w own K S .nilFunc .nilf
 | undef {S:BS} (v:Value):TR w own K S v .undef
 | nil {S:BS} {a:Option Addr} {sz:Nat}:TR w own K S (.slice a 0 0) (.lst sz [])
 | lst {S:BS} {b o c:Nat} {cs:Array Value} {e:TypeId} {fz:Nat×Nat} {sz:Nat} {rows:Rows} (f:Nat→Nat→BS)
  (hb:w.heap[b]?=some (.cells cs e fz)) (hs:o+c*sz≤cs.size) (hc:rows.length≤c) (hl:∀ row∈rows,row.length=sz)
  (hK:0<c*sz∧∀ q,o≤q→q<o+c*sz→K b q) (hS:S b) (hf:∀ i j k,f i j k→S k)
  (hd:own=true→(∀ i j,¬f i j b)∧∀ i j i' j' k,f i j k→f i' j' k→i=i'∧j=j')
  (hcell:∀ (i j:Nat) (row:List AV) (a:AV),rows[i]?=some row→row[j]?=some a→TR w own K (f i j) (cs.getD (o+i*sz+j) default) a) :
  TR w own K S (.slice (some ⟨b,o,none⟩) rows.length c) (.lst sz rows)
theorem TR.mono {w:World} {own:Bool} {K K':CS} {S S':BS} {v:Value} {a:AV} (h:TR w own K S v a) (hS:∀ k,S k→S' k) (hK:∀ b q,S b→K b q→K' b q):TR w own K' S' v a:=by
 induction h generalizing S' with
 | bool b=>exact .bool b
 | int k n=>exact .int k n
 | str s=>exact .str s
 | nilp=>exact .nilp
 | nilf=>exact .nilf
 | undef v=>exact .undef v
 | nil=>exact .nil
 | lst f hb hs hc hl hK0 hS0 hf hd _ ih =>
   exact .lst f hb hs hc hl ⟨hK0.1,fun q h1 h2=>hK _ q hS0 (hK0.2 q h1 h2)⟩ (hS _ hS0) (fun i j k hk=>hS k (hf i j k hk)) hd
    (fun i j row a h1 h2=>ih i j row a h1 h2 (fun _ h=>h) (fun b q hb' hk=>hK b q (hf i j b hb') hk))
theorem TR.world {w w':World} {own:Bool} {K:CS} {S:BS} {v:Value} {a:AV} (h:TR w own K S v a) (hw:∀ b,S b→w'.heap[b]?=w.heap[b]?):TR w' own K S v a:=by
 induction h with
 | bool b=>exact .bool b
 | int k n=>exact .int k n
 | str s=>exact .str s
 | nilp=>exact .nilp
 | nilf=>exact .nilf
 | undef v=>exact .undef v
 | nil=>exact .nil
 | lst f hb hs hc hl hK0 hS0 hf hd _ ih =>
   exact .lst f ((hw _ hS0).trans hb) hs hc hl hK0 hS0 hf hd (fun i j row a h1 h2=>ih i j row a h1 h2 (fun b hb'=>hw b (hf i j b hb')))
theorem TR.cells {w w':World} {own:Bool} {K:CS} {S:BS} {v:Value} {a:AV} (h:TR w own K S v a)
 (hw:∀ b cs e fz,w.heap[b]?=some (.cells cs e fz)→∃ cs',w'.heap[b]?=some (.cells cs' e fz)∧cs'.size=cs.size∧∀ q,K b q→cs'[q]?=cs[q]?):TR w' own K S v a:=by
 induction h with
 | bool b=>exact .bool b
 | int k n=>exact .int k n
 | str s=>exact .str s
 | nilp=>exact .nilp
 | nilf=>exact .nilf
 | undef v=>exact .undef v
 | nil=>exact .nil
 | @lst S b o c cs e fz sz rows f hb hs hc hl hK0 hS0 hf hd _ ih =>
   obtain ⟨cs',h1,h2,h3⟩:=hw _ _ _ _ hb
   refine .lst f h1 (by omega) hc hl hK0 hS0 hf hd (fun i j row a hr ha=>?_)
   have hi:i<rows.length:=(List.getElem?_eq_some_iff.1 hr).1
   have hj:j<sz:=by rw [←hl row (List.mem_of_getElem? hr)];exact (List.getElem?_eq_some_iff.1 ha).1
   have hq:o+i*sz+j<o+c*sz:=by
    have:(i+1)*sz≤c*sz:=Nat.mul_le_mul_right _ (by omega)
    rw [Nat.succ_mul] at this
    omega
   have e1:cs'.getD (o+i*sz+j) default=cs.getD (o+i*sz+j) default:=by
    have:=h3 (o+i*sz+j) (hK0.2 _ (by have:=Nat.zero_le (i*sz);omega) hq)
    simp only [Array.getD_eq_getD_getElem?,this]
   rw [e1]
   exact ih i j row a hr ha
end Go.Abs
namespace Go.Abs
theorem Wj {w:World} {b k:Nat} {cs:Array Value} {e:TypeId} {fz:Nat×Nat} (h:w.heap[b]?=some (.cells cs e fz)):w.cell? ⟨b,k,none⟩=cs[k]?:=by
 simp [World.cell?,h]
theorem Q0 {sz c n i j o:Nat} (hi:i<n) (hn:n≤c) (hj:j<sz):o+i*sz+j<o+c*sz:=by
 have:(i+1)*sz≤c*sz:=Nat.mul_le_mul_right _ (by omega)
 rw [Nat.succ_mul] at this
 omega
theorem Xpz {sz i j i' j':Nat} (hj:j<sz) (hj':j'<sz) (h:i*sz+j=i'*sz+j'):i=i'∧j=j':=by
 have h1:(i*sz+j) / sz=i:=by rw [Nat.add_comm,Nat.add_mul_div_right _ _ (by omega),Nat.div_eq_of_lt hj,Nat.zero_add]
 have h2:(i'*sz+j') / sz=i':=by rw [Nat.add_comm,Nat.add_mul_div_right _ _ (by omega),Nat.div_eq_of_lt hj',Nat.zero_add]
 have e:i=i':=by rw [←h1,h,h2]
 subst e
 exact ⟨rfl,by omega⟩
def walk (w:World):Value→Nat→Rows→Path→Option (Value×Nat×Rows)
 | v,sz,rows,[]=>some (v,sz,rows)
 | v,sz,rows,(i,j)::p=>match v with
   | .slice (some a) _ _=>match rows[i]? with
     | none=>none
     | some row=>match row[j]? with
       | some (.lst sz1 rows1)=>match w.cell? ⟨a.block,a.off+i*sz+j,none⟩ with
         | some v1=>walk w v1 sz1 rows1 p
         | none=>none
       | _=>none
   | _=>none
theorem Xe9 {w:World} {v:Value} {sz:Nat} {rows:Rows} {p:Path} {v':Value} {sz':Nat} {rows':Rows} (h:walk w v sz rows p=some (v',sz',rows')):resR p sz rows=some (sz',rows'):=by
 induction p generalizing v sz rows with
 | nil=>simp only [walk,Option.some.injEq,Prod.mk.injEq] at h;obtain ⟨_,rfl,rfl⟩:=h;rfl
 | cons q p ih =>
   obtain ⟨i,j⟩:=q
   simp only [walk] at h
   split at h
   ·split at h
    ·cases h
    ·rename_i row h1
     split at h
     ·rename_i h2
      split at h
      ·simp only [resR,h1,h2];exact ih h
      ·cases h
     ·cases h
   ·cases h
theorem TR.lst_inv {w:World} {own:Bool} {K:CS} {S:BS} {v:Value} {sz:Nat} {rows:Rows} (h:TR w own K S v (.lst sz rows)) :
 (rows=[]∧∃ a,v=.slice a 0 0)∨∃ (b o c:Nat) (cs:Array Value) (e:TypeId) (fz:Nat×Nat) (f:Nat→Nat→BS),v=.slice (some ⟨b,o,none⟩) rows.length c ∧
  w.heap[b]?=some (.cells cs e fz)∧o+c*sz≤cs.size∧rows.length≤c∧(∀ row∈rows,row.length=sz)∧(0<c*sz∧∀ q,o≤q→q<o+c*sz→K b q)∧S b∧(∀ i j k,f i j k→S k) ∧
  (own=true→(∀ i j,¬f i j b)∧∀ i j i' j' k,f i j k→f i' j' k→i=i'∧j=j') ∧
  ∀ (i j:Nat) (row:List AV) (a:AV),rows[i]?=some row→row[j]?=some a→TR w own K (f i j) (cs.getD (o+i*sz+j) default) a:=by
 cases h with
 | nil=>exact .inl ⟨rfl,_,rfl⟩
 | lst f hb hs hc hl hK hS hf hd hcell=>exact .inr ⟨_,_,_,_,_,_,f,rfl,hb,hs,hc,hl,hK,hS,hf,hd,hcell⟩
theorem TR.get {w:World} {own:Bool} {K:CS} {S:BS} {v:Value} {sz:Nat} {rows:Rows} {p:Path} {sz':Nat} {rows':Rows} (h:TR w own K S v (.lst sz rows))
 (hp:resR p sz rows=some (sz',rows')):∃ v' S',walk w v sz rows p=some (v',sz',rows')∧TR w own K S' v' (.lst sz' rows')∧∀ k,S' k→S k:=by
 induction p generalizing v sz rows S with
 | nil=>simp only [resR,Option.some.injEq,Prod.mk.injEq] at hp;obtain ⟨rfl,rfl⟩:=hp;exact ⟨v,S,rfl,h,fun _ h=>h⟩
 | cons q p ih =>
   obtain ⟨i,j⟩:=q
   simp only [resR] at hp
   split at hp
   ·cases hp
   ·rename_i row h1
    split at hp
    ·rename_i sz1 rows1 h2
     rcases h.lst_inv with ⟨rfl,_⟩ | ⟨b,o,c,cs,e,fz,f,rfl,hb,hs,hc,hl,hK,hS,hf,hd,hcell⟩
     ·simp at h1
     ·have hi:i<rows.length:=(List.getElem?_eq_some_iff.1 h1).1
      have hj:j<sz:=by rw [←hl row (List.mem_of_getElem? h1)];exact (List.getElem?_eq_some_iff.1 h2).1
      have hq:o+i*sz+j<cs.size:=Nat.lt_of_lt_of_le (Q0 hi hc hj) hs
      obtain ⟨v',S',h3,h4,h5⟩:=ih (hcell i j row _ h1 h2) hp
      refine ⟨v',S',?_,h4,fun k hk=>hf i j k (h5 k hk)⟩
      have e1:cs[o+i*sz+j]?=some (cs.getD (o+i*sz+j) default):=by simp [Array.getD_eq_getD_getElem?,hq]
      simp only [walk,h1,h2,Wj hb,e1]
      exact h3
    ·cases hp
theorem Us {w w':World} {own:Bool} {K:CS} {S:BS} {v:Value} {sz:Nat} {rows:Rows} {p:Path} (h:TR w own K S v (.lst sz rows)) (hw:∀ b,S b→w'.heap[b]?=w.heap[b]?) :
 walk w' v sz rows p=walk w v sz rows p:=by
 induction p generalizing v sz rows S with
 | nil=>rfl
 | cons q p ih =>
   obtain ⟨i,j⟩:=q
   rcases h.lst_inv with ⟨rfl,a,rfl⟩ | ⟨b,o,c,cs,e,fz,f,rfl,hb,hs,hc,hl,hK,hS,hf,hd,hcell⟩
   ·cases a <;> simp [walk]
   ·simp only [walk]
    cases h1:rows[i]? with
    | none=>rfl
    | some row =>
      simp only
      cases h2:row[j]? with
      | none=>rfl
      | some a =>
        cases a <;> simp only
        rename_i sz1 rows1
        rw [Wj hb,Wj ((hw b hS).trans hb)]
        cases h3:cs[o+i*sz+j]? with
        | none=>rfl
        | some v1 =>
          simp only
          have e1:cs.getD (o+i*sz+j) default=v1:=by simp [Array.getD_eq_getD_getElem?,h3]
          have:=hcell i j row _ h1 h2
          rw [e1] at this
          exact ih this (fun k hk=>hw k (hf i j k hk))
theorem Ux {w:World} {b k:Nat} {u:Value} {cs:Array Value} {e:TypeId} {fz:Nat×Nat} (h:w.heap[b]?=some (.cells cs e fz)) :
 (w.setCell ⟨b,k,none⟩ u).heap[b]?=some (.cells (cs.setIfInBounds k u) e fz):=by
 simp [World.setCell,Array.getElem?_modify,h]
theorem Z5 {w:World} {b k n:Nat} {u:Value} (h:n≠b):(w.setCell ⟨b,k,none⟩ u).heap[n]?=w.heap[n]?:=by
 simp only [World.setCell,Array.getElem?_modify]
 rw [if_neg (by omega)]
theorem TR.set {w:World} {K:CS} {S S2:BS} {v:Value} {sz:Nat} {rows:Rows} {p:Path} {sz':Nat} {rows':Rows} {b o n c:Nat} {i j:Nat} {row:List AV} {u:Value} {a:AV}
 (h:TR w true K S v (.lst sz rows)) (hp:walk w v sz rows p=some (.slice (some ⟨b,o,none⟩) n c,sz',rows')) (hi:rows'[i]?=some row) (hj:j<row.length)
 (ha:TR w true K S2 u a) (hd2:∀ k,S2 k→¬S k) :
 S b∧TR (w.setCell ⟨b,o+i*sz'+j,none⟩ u) true K (fun k=>S k∨S2 k) v (.lst sz (updR p rows (rows'.set i (row.set j a)))) ∧
  ∀ q vq szq rowsq,walk w v sz rows q=some (vq,szq,rowsq)→¬(p++[(i,j)] <+: q) →
   ∃ rowsq',walk (w.setCell ⟨b,o+i*sz'+j,none⟩ u) v sz (updR p rows (rows'.set i (row.set j a))) q=some (vq,szq,rowsq')∧rowsq'.length=rowsq.length:=by
 induction p generalizing v sz rows S with
 | nil =>
   simp only [walk,Option.some.injEq,Prod.mk.injEq] at hp
   obtain ⟨rfl,rfl,rfl⟩:=hp
   rcases h.lst_inv with ⟨rfl,_⟩ | ⟨b',o',c',cs,e,fz,f,hv,hb,hs,hc,hl,hK,hS,hf,hd,hcell⟩
   ·simp at hi
   simp only [Value.slice.injEq,Option.some.injEq,Addr.mk.injEq] at hv
   obtain ⟨⟨rfl,rfl,_⟩,rfl,rfl⟩:=hv
   obtain ⟨hd1,hd3⟩:=hd rfl
   have hil:i<rows.length:=(List.getElem?_eq_some_iff.1 hi).1
   have hjs:j<sz:=by rw [←hl row (List.mem_of_getElem? hi)];exact hj
   have hq:o+i*sz+j<cs.size:=Nat.lt_of_lt_of_le (Q0 hil hc hjs) hs
   have hother:∀ k,k≠b→(w.setCell ⟨b,o+i*sz+j,none⟩ u).heap[k]?=w.heap[k]?:=fun k hk=>Z5 hk
   have hne:∀ i' j',j'<sz→¬(i'=i∧j'=j)→o+i'*sz+j'≠o+i*sz+j:=fun i' j' hj' hn e=>hn (Xpz hj' hjs (by omega))
   refine ⟨hS,?_,?_⟩
   ·simp only [updR]
    have hlen:(rows.set i (row.set j a)).length=rows.length:=by simp
    rw [←hlen]
    refine .lst (fun i' j'=>if i'=i∧j'=j then S2 else f i' j') (Ux hb) (by simpa using hs) (by simpa using hc) ?_ hK (.inl hS) ?_ ?_ ?_
    ·intro r hr
     rcases List.mem_or_eq_of_mem_set hr with hr | rfl
     ·exact hl r hr
     ·rw [List.length_set];exact hl row (List.mem_of_getElem? hi)
    ·intro i' j' k hk
     split at hk
     ·exact .inr hk
     ·exact .inl (hf _ _ _ hk)
    ·intro _
     refine ⟨fun i' j' hk=>?_,fun i1 j1 i2 j2 k h1 h2=>?_⟩
     ·split at hk
      ·exact hd2 _ hk hS
      ·exact hd1 _ _ hk
     ·split at h1 <;> split at h2
      ·rename_i a b;exact ⟨a.1.trans b.1.symm,a.2.trans b.2.symm⟩
      ·exact absurd (hf _ _ _ h2) (hd2 k h1)
      ·exact absurd (hf _ _ _ h1) (hd2 k h2)
      ·exact hd3 _ _ _ _ k h1 h2
    ·intro i' j' row' a' hr' ha'
     by_cases e1:i'=i∧j'=j
     ·obtain ⟨rfl,rfl⟩:=e1
      rw [List.getElem?_set_self hil] at hr'
      cases hr'
      rw [List.getElem?_set_self hj] at ha'
      cases ha'
      simp only [and_self,if_true]
      have:(cs.setIfInBounds (o+i'*sz+j') u).getD (o+i'*sz+j') default=u:=by simp [Array.getD_eq_getD_getElem?,hq]
      rw [this]
      exact ha.world (fun k hk=>hother k (fun e=>hd2 k hk (e▸hS)))
     ·rw [if_neg e1]
      have hold:∃ row0,rows[i']?=some row0∧row0[j']?=some a':=by
       by_cases e2:i=i'
       ·subst e2
        rw [List.getElem?_set_self hil] at hr'
        cases hr'
        have e3:j≠j':=fun e3=>e1 ⟨rfl,e3.symm⟩
        rw [List.getElem?_set_ne e3] at ha'
        exact ⟨row,hi,ha'⟩
       ·rw [List.getElem?_set_ne e2] at hr'
        exact ⟨row',hr',ha'⟩
      obtain ⟨row0,h4,h5⟩:=hold
      have hj':j'<sz:=by rw [←hl row0 (List.mem_of_getElem? h4)];exact (List.getElem?_eq_some_iff.1 h5).1
      have e4:(cs.setIfInBounds (o+i*sz+j) u).getD (o+i'*sz+j') default=cs.getD (o+i'*sz+j') default:=by
       simp only [Array.getD_eq_getD_getElem?]
       rw [Array.getElem?_setIfInBounds_ne (Ne.symm (hne i' j' hj' e1))]
      rw [e4]
      exact (hcell i' j' row0 a' h4 h5).world (fun k hk=>hother k (fun e=>hd1 i' j' (e▸hk)))
   ·intro q vq szq rowsq hw hn
    cases q with
    | nil =>
      simp only [walk,Option.some.injEq,Prod.mk.injEq] at hw
      obtain ⟨rfl,rfl,rfl⟩:=hw
      exact ⟨_,rfl,by simp [updR]⟩
    | cons q1 q =>
      obtain ⟨i1,j1⟩:=q1
      have e1:¬(i1=i∧j1=j):=fun e=>hn (by obtain ⟨rfl,rfl⟩:=e;simp)
      simp only [walk] at hw
      split at hw
      ·cases hw
      ·rename_i row1 h1
       split at hw
       ·rename_i sz1 rows1 h2
        split at hw
        ·rename_i v1 h3
         have hj1:j1<sz:=by rw [←hl row1 (List.mem_of_getElem? h1)];exact (List.getElem?_eq_some_iff.1 h2).1
         rw [Wj hb] at h3
         have hchild:=hcell i1 j1 row1 _ h1 h2
         have e2:cs.getD (o+i1*sz+j1) default=v1:=by simp [Array.getD_eq_getD_getElem?,h3]
         rw [e2] at hchild
         have hnew:∃ row2,(rows.set i (row.set j a))[i1]?=some row2∧row2[j1]?=some (.lst sz1 rows1):=by
          by_cases e3:i=i1
          ·subst e3
           have e4:j≠j1:=fun e4=>e1 ⟨rfl,e4.symm⟩
           rw [hi] at h1
           cases h1
           exact ⟨_,List.getElem?_set_self hil,by rw [List.getElem?_set_ne e4];exact h2⟩
          ·exact ⟨row1,by rw [List.getElem?_set_ne e3];exact h1,h2⟩
         obtain ⟨row2,h5,h6⟩:=hnew
         refine ⟨rowsq,?_,rfl⟩
         simp only [walk,updR,h5,h6,Wj (Ux hb)]
         rw [Array.getElem?_setIfInBounds_ne (Ne.symm (hne i1 j1 hj1 e1)),h3]
         simp only
         rw [Us hchild (fun k hk=>hother k (fun e=>hd1 i1 j1 (e▸hk)))]
         exact hw
        ·cases hw
       ·cases hw
 | cons q0 p ih =>
   obtain ⟨i0,j0⟩:=q0
   rcases h.lst_inv with ⟨rfl,x,rfl⟩ | ⟨b',o',c',cs,e,fz,f,rfl,hb,hs,hc,hl,hK,hS,hf,hd,hcell⟩
   ·cases x <;> simp [walk] at hp
   simp only [walk] at hp
   split at hp
   ·cases hp
   ·rename_i row1 h1
    split at hp
    ·rename_i sz1 rows1 h2
     split at hp
     ·rename_i v1 h3
      rw [Wj hb] at h3
      obtain ⟨hd1,hd3⟩:=hd rfl
      have hil:i0<rows.length:=(List.getElem?_eq_some_iff.1 h1).1
      have hjl:j0<row1.length:=(List.getElem?_eq_some_iff.1 h2).1
      have hchild:=hcell i0 j0 row1 _ h1 h2
      have e2:cs.getD (o'+i0*sz+j0) default=v1:=by simp [Array.getD_eq_getD_getElem?,h3]
      rw [e2] at hchild
      obtain ⟨g1,g2,g3⟩:=ih hchild hp (fun k hk hf'=>hd2 k hk (hf _ _ _ hf'))
      have hbb:b'≠b:=fun e=>hd1 i0 j0 (e▸g1)
      have hother:∀ k,k≠b→(w.setCell ⟨b,o+i*sz'+j,none⟩ u).heap[k]?=w.heap[k]?:=fun k hk=>Z5 hk
      have hb2:(w.setCell ⟨b,o+i*sz'+j,none⟩ u).heap[b']?=some (.cells cs e fz):=(hother b' hbb).trans hb
      refine ⟨hf _ _ _ g1,?_,?_⟩
      ·simp only [updR,h1,h2]
       have hlen:(rows.set i0 (row1.set j0 (.lst sz1 (updR p rows1 (rows'.set i (row.set j a)))))).length=rows.length:=by simp
       rw [←hlen]
       refine .lst (fun i' j'=>if i'=i0∧j'=j0 then (fun k=>f i0 j0 k∨S2 k) else f i' j') hb2 hs (by simpa using hc) ?_ hK (.inl hS) ?_ ?_ ?_
       ·intro r hr
        rcases List.mem_or_eq_of_mem_set hr with hr | rfl
        ·exact hl r hr
        ·rw [List.length_set];exact hl row1 (List.mem_of_getElem? h1)
       ·intro i' j' k hk
        split at hk
        ·rcases hk with hk | hk
         ·exact .inl (hf _ _ _ hk)
         ·exact .inr hk
        ·exact .inl (hf _ _ _ hk)
       ·intro _
        refine ⟨fun i' j' hk=>?_,fun i1 j1 i2 j2 k k1 k2=>?_⟩
        ·split at hk
         ·rcases hk with hk | hk
          ·exact hd1 _ _ hk
          ·exact hd2 _ hk hS
         ·exact hd1 _ _ hk
        ·split at k1 <;> split at k2
         ·rename_i a b;exact ⟨a.1.trans b.1.symm,a.2.trans b.2.symm⟩
         ·rename_i a1 a2
          rcases k1 with k1 | k1
          ·have:=hd3 _ _ _ _ k k1 k2;exact absurd ⟨this.1.symm,this.2.symm⟩ a2
          ·exact absurd (hf _ _ _ k2) (hd2 k k1)
         ·rename_i a1 a2
          rcases k2 with k2 | k2
          ·exact absurd (hd3 _ _ _ _ k k1 k2) a1
          ·exact absurd (hf _ _ _ k1) (hd2 k k2)
         ·exact hd3 _ _ _ _ k k1 k2
       ·intro i' j' row' a' hr' ha'
        by_cases e1:i'=i0∧j'=j0
        ·obtain ⟨rfl,rfl⟩:=e1
         rw [List.getElem?_set_self hil] at hr'
         cases hr'
         rw [List.getElem?_set_self hjl] at ha'
         cases ha'
         simp only [and_self,if_true]
         rw [e2]
         exact g2
        ·rw [if_neg e1]
         have hold:∃ row0,rows[i']?=some row0∧row0[j']?=some a':=by
          by_cases e3:i0=i'
          ·subst e3
           rw [List.getElem?_set_self hil] at hr'
           cases hr'
           have e4:j0≠j':=fun e4=>e1 ⟨rfl,e4.symm⟩
           rw [List.getElem?_set_ne e4] at ha'
           exact ⟨row1,h1,ha'⟩
          ·rw [List.getElem?_set_ne e3] at hr'
           exact ⟨row',hr',ha'⟩
         obtain ⟨row0,h4,h5⟩:=hold
         exact (hcell i' j' row0 a' h4 h5).world (fun k hk=>hother k (fun e=>e1 (hd3 _ _ _ _ b (e▸hk) g1)))
      ·intro q vq szq rowsq hw hn
       cases q with
       | nil =>
         simp only [walk,Option.some.injEq,Prod.mk.injEq] at hw
         obtain ⟨rfl,rfl,rfl⟩:=hw
         exact ⟨_,rfl,by simp [updR,h1,h2]⟩
       | cons q1 q =>
         obtain ⟨i1,j1⟩:=q1
         by_cases e1:i1=i0∧j1=j0
         ·obtain ⟨rfl,rfl⟩:=e1
          simp only [walk,h1,h2,Wj hb,h3] at hw
          obtain ⟨rowsq',h4,h5⟩:=g3 q vq szq rowsq hw (fun hh=>hn (by simpa using hh))
          refine ⟨rowsq',?_,h5⟩
          simp only [walk,updR,h1,h2,List.getElem?_set_self hil,List.getElem?_set_self hjl,Wj hb2,h3]
          exact h4
         ·simp only [walk] at hw
          split at hw
          ·cases hw
          ·rename_i row3 k1
           split at hw
           ·rename_i sz3 rows3 k2
            split at hw
            ·rename_i v3 k3
             rw [Wj hb] at k3
             have hchild3:=hcell i1 j1 row3 _ k1 k2
             have e5:cs.getD (o'+i1*sz+j1) default=v3:=by simp [Array.getD_eq_getD_getElem?,k3]
             rw [e5] at hchild3
             have hnew:∃ row2,(rows.set i0 (row1.set j0 (.lst sz1 (updR p rows1 (rows'.set i (row.set j a))))))[i1]?=some row2∧row2[j1]?=some (.lst sz3 rows3):=by
              by_cases e3:i0=i1
              ·subst e3
               have e4:j0≠j1:=fun e4=>e1 ⟨rfl,e4.symm⟩
               rw [h1] at k1
               cases k1
               exact ⟨_,List.getElem?_set_self hil,by rw [List.getElem?_set_ne e4];exact k2⟩
              ·exact ⟨row3,by rw [List.getElem?_set_ne e3];exact k1,k2⟩
             obtain ⟨row2,h5,h6⟩:=hnew
             refine ⟨rowsq,?_,rfl⟩
             simp only [walk,updR,h1,h2,h5,h6,Wj hb2,k3]
             rw [Us hchild3 (fun k hk=>hother k (fun e=>e1 (hd3 _ _ _ _ b (e▸hk) g1)))]
             exact hw
            ·cases hw
           ·cases hw
     ·cases hp
    ·cases hp
end Go.Abs
namespace Go.Abs
theorem Xrb {w:World} {v:Value} {sz:Nat} {rows:Rows} {p:Path} {v':Value} {sz':Nat} {rows':Rows} {i j:Nat} {row:List AV} {a:AV}
 (hp:resR p sz rows=some (sz',rows')) (hi:rows'[i]?=some row) (hj:j<row.length) {q:Path} {vq:Value} {szq:Nat} {rowsq:Rows}
 (hw:walk w v sz rows q=some (vq,szq,rowsq)) (hn:¬(p++[(i,j)] <+: q)) :
 ∃ rowsq',walk w v sz (updR p rows (rows'.set i (row.set j a))) q=some (vq,szq,rowsq')∧rowsq'.length=rowsq.length:=by
 induction p generalizing v sz rows q with
 | nil =>
   simp only [resR,Option.some.injEq,Prod.mk.injEq] at hp
   obtain ⟨rfl,rfl⟩:=hp
   have hil:i<rows.length:=(List.getElem?_eq_some_iff.1 hi).1
   cases q with
   | nil =>
     simp only [walk,Option.some.injEq,Prod.mk.injEq] at hw
     obtain ⟨rfl,rfl,rfl⟩:=hw
     exact ⟨_,rfl,by simp [updR]⟩
   | cons q1 q =>
     obtain ⟨i1,j1⟩:=q1
     have e1:¬(i1=i∧j1=j):=fun e=>hn (by obtain ⟨rfl,rfl⟩:=e;simp)
     simp only [walk] at hw
     split at hw
     ·split at hw
      ·cases hw
      ·rename_i row1 h1
       split at hw
       ·rename_i sz1 rows1 h2
        have hnew:∃ row2,(rows.set i (row.set j a))[i1]?=some row2∧row2[j1]?=some (.lst sz1 rows1):=by
         by_cases e3:i=i1
         ·subst e3
          have e4:j≠j1:=fun e4=>e1 ⟨rfl,e4.symm⟩
          rw [hi] at h1
          cases h1
          exact ⟨_,List.getElem?_set_self hil,by rw [List.getElem?_set_ne e4];exact h2⟩
         ·exact ⟨row1,by rw [List.getElem?_set_ne e3];exact h1,h2⟩
        obtain ⟨row2,h5,h6⟩:=hnew
        exact ⟨rowsq,by simp only [walk,updR,h5,h6];exact hw,rfl⟩
       ·cases hw
     ·cases hw
 | cons q0 p ih =>
   obtain ⟨i0,j0⟩:=q0
   simp only [resR] at hp
   split at hp
   ·cases hp
   ·rename_i row1 h1
    split at hp
    ·rename_i sz1 rows1 h2
     have hil:i0<rows.length:=(List.getElem?_eq_some_iff.1 h1).1
     have hjl:j0<row1.length:=(List.getElem?_eq_some_iff.1 h2).1
     cases q with
     | nil =>
       simp only [walk,Option.some.injEq,Prod.mk.injEq] at hw
       obtain ⟨rfl,rfl,rfl⟩:=hw
       exact ⟨_,rfl,by simp [updR,h1,h2]⟩
     | cons q1 q =>
       obtain ⟨i1,j1⟩:=q1
       simp only [walk] at hw
       split at hw
       ·rename_i ad n c
        by_cases e1:i1=i0∧j1=j0
        ·obtain ⟨rfl,rfl⟩:=e1
         simp only [h1,h2] at hw
         split at hw
         ·rename_i v1 h3
          obtain ⟨rowsq',h4,h5⟩:=ih hp hw (fun hh=>hn (by simpa using hh))
          refine ⟨rowsq',?_,h5⟩
          simp only [walk,updR,h1,h2,List.getElem?_set_self hil,List.getElem?_set_self hjl,h3]
          exact h4
         ·cases hw
        ·split at hw
         ·cases hw
         ·rename_i row3 k1
          split at hw
          ·rename_i sz3 rows3 k2
           have hnew:∃ row2,(rows.set i0 (row1.set j0 (.lst sz1 (updR p rows1 (rows'.set i (row.set j a))))))[i1]?=some row2∧row2[j1]?=some (.lst sz3 rows3):=by
            by_cases e3:i0=i1
            ·subst e3
             have e4:j0≠j1:=fun e4=>e1 ⟨rfl,e4.symm⟩
             rw [h1] at k1
             cases k1
             exact ⟨_,List.getElem?_set_self hil,by rw [List.getElem?_set_ne e4];exact k2⟩
            ·exact ⟨row3,by rw [List.getElem?_set_ne e3];exact k1,k2⟩
           obtain ⟨row2,h5,h6⟩:=hnew
           exact ⟨rowsq,by simp only [walk,updR,h1,h2,h5,h6];exact hw,rfl⟩
          ·cases hw
       ·cases hw
    ·cases hp
theorem TR.take {w:World} {K:CS} {S:BS} {v:Value} {sz:Nat} {rows:Rows} {p:Path} {sz':Nat} {rows':Rows} {i j:Nat} {row:List AV} {szt:Nat} {t:Rows}
 (h:TR w true K S v (.lst sz rows)) (hp:resR p sz rows=some (sz',rows')) (hi:rows'[i]?=some row) (hj:row[j]?=some (.lst szt t)) :
 ∃ S2 vt,(∀ k,S2 k→S k)∧walk w v sz rows (p++[(i,j)])=some (vt,szt,t)∧TR w true K S2 vt (.lst szt t) ∧
  TR w true K (fun k=>S k∧¬S2 k) v (.lst sz (updR p rows (rows'.set i (row.set j .undef)))):=by
 induction p generalizing v sz rows S with
 | nil =>
   simp only [resR,Option.some.injEq,Prod.mk.injEq] at hp
   obtain ⟨rfl,rfl⟩:=hp
   rcases h.lst_inv with ⟨rfl,_⟩ | ⟨b,o,c,cs,e,fz,f,rfl,hb,hs,hc,hl,hK,hS,hf,hd,hcell⟩
   ·simp at hi
   obtain ⟨hd1,hd3⟩:=hd rfl
   have hil:i<rows.length:=(List.getElem?_eq_some_iff.1 hi).1
   have hjl:j<row.length:=(List.getElem?_eq_some_iff.1 hj).1
   have hjs:j<sz:=by rw [←hl row (List.mem_of_getElem? hi)];exact hjl
   have hq:o+i*sz+j<cs.size:=Nat.lt_of_lt_of_le (Q0 hil hc hjs) hs
   have e1:cs[o+i*sz+j]?=some (cs.getD (o+i*sz+j) default):=by simp [Array.getD_eq_getD_getElem?,hq]
   refine ⟨f i j,cs.getD (o+i*sz+j) default,hf i j,?_,hcell i j row _ hi hj,?_⟩
   ·simp only [List.nil_append,walk,hi,hj,Wj hb,e1]
   ·simp only [updR]
    have hlen:(rows.set i (row.set j .undef)).length=rows.length:=by simp
    rw [←hlen]
    refine .lst (fun i' j'=>if i'=i∧j'=j then (fun _=>False) else f i' j') hb hs (by simpa using hc) ?_ hK ⟨hS,hd1 i j⟩ ?_ ?_ ?_
    ·intro r hr
     rcases List.mem_or_eq_of_mem_set hr with hr | rfl
     ·exact hl r hr
     ·rw [List.length_set];exact hl row (List.mem_of_getElem? hi)
    ·intro i' j' k hk
     split at hk
     ·exact hk.elim
     ·rename_i hne
      exact ⟨hf _ _ _ hk,fun hk2=>hne (hd3 _ _ _ _ k hk hk2)⟩
    ·intro _
     refine ⟨fun i' j' hk=>?_,fun i1 j1 i2 j2 k h1 h2=>?_⟩
     ·split at hk
      ·exact hk.elim
      ·exact hd1 _ _ hk
     ·split at h1 <;> split at h2
      ·exact h1.elim
      ·exact h1.elim
      ·exact h2.elim
      ·exact hd3 _ _ _ _ k h1 h2
    ·intro i' j' row' a' hr' ha'
     by_cases e2:i'=i∧j'=j
     ·obtain ⟨rfl,rfl⟩:=e2
      rw [List.getElem?_set_self hil] at hr'
      cases hr'
      rw [List.getElem?_set_self hjl] at ha'
      cases ha'
      exact .undef _
     ·rw [if_neg e2]
      have hold:∃ row0,rows[i']?=some row0∧row0[j']?=some a':=by
       by_cases e3:i=i'
       ·subst e3
        rw [List.getElem?_set_self hil] at hr'
        cases hr'
        have e4:j≠j':=fun e4=>e2 ⟨rfl,e4.symm⟩
        rw [List.getElem?_set_ne e4] at ha'
        exact ⟨row,hi,ha'⟩
       ·rw [List.getElem?_set_ne e3] at hr'
        exact ⟨row',hr',ha'⟩
      obtain ⟨row0,h4,h5⟩:=hold
      exact hcell i' j' row0 a' h4 h5
 | cons q0 p ih =>
   obtain ⟨i0,j0⟩:=q0
   simp only [resR] at hp
   split at hp
   ·cases hp
   ·rename_i row1 h1
    split at hp
    ·rename_i sz1 rows1 h2
     rcases h.lst_inv with ⟨rfl,_⟩ | ⟨b,o,c,cs,e,fz,f,rfl,hb,hs,hc,hl,hK,hS,hf,hd,hcell⟩
     ·simp at h1
     obtain ⟨hd1,hd3⟩:=hd rfl
     have hil:i0<rows.length:=(List.getElem?_eq_some_iff.1 h1).1
     have hjl:j0<row1.length:=(List.getElem?_eq_some_iff.1 h2).1
     have hjs:j0<sz:=by rw [←hl row1 (List.mem_of_getElem? h1)];exact hjl
     have hq:o+i0*sz+j0<cs.size:=Nat.lt_of_lt_of_le (Q0 hil hc hjs) hs
     have e1:cs[o+i0*sz+j0]?=some (cs.getD (o+i0*sz+j0) default):=by simp [Array.getD_eq_getD_getElem?,hq]
     obtain ⟨S2,vt,g1,g2,g3,g4⟩:=ih (hcell i0 j0 row1 _ h1 h2) hp
     refine ⟨S2,vt,fun k hk=>hf _ _ _ (g1 k hk),?_,g3,?_⟩
     ·simp only [List.cons_append,walk,h1,h2,Wj hb,e1]
      exact g2
     ·simp only [updR,h1,h2]
      have hlen:(rows.set i0 (row1.set j0 (.lst sz1 (updR p rows1 (rows'.set i (row.set j .undef)))))).length=rows.length:=by simp
      rw [←hlen]
      refine .lst (fun i' j'=>if i'=i0∧j'=j0 then (fun k=>f i0 j0 k∧¬S2 k) else f i' j') hb hs (by simpa using hc) ?_ hK ⟨hS,fun hk=>hd1 i0 j0 (g1 _ hk)⟩ ?_ ?_ ?_
      ·intro r hr
       rcases List.mem_or_eq_of_mem_set hr with hr | rfl
       ·exact hl r hr
       ·rw [List.length_set];exact hl row1 (List.mem_of_getElem? h1)
      ·intro i' j' k hk
       split at hk
       ·exact ⟨hf _ _ _ hk.1,hk.2⟩
       ·rename_i hne
        exact ⟨hf _ _ _ hk,fun hk2=>hne (hd3 _ _ _ _ k hk (g1 k hk2))⟩
      ·intro _
       refine ⟨fun i' j' hk=>?_,fun i1 j1 i2 j2 k k1 k2=>?_⟩
       ·split at hk
        ·exact hd1 _ _ hk.1
        ·exact hd1 _ _ hk
       ·split at k1 <;> split at k2
        ·rename_i a b;exact ⟨a.1.trans b.1.symm,a.2.trans b.2.symm⟩
        ·rename_i a1 a2
         have:=hd3 _ _ _ _ k k1.1 k2;exact absurd ⟨this.1.symm,this.2.symm⟩ a2
        ·rename_i a1 a2
         exact absurd (hd3 _ _ _ _ k k1 k2.1) a1
        ·exact hd3 _ _ _ _ k k1 k2
      ·intro i' j' row' a' hr' ha'
       by_cases e2:i'=i0∧j'=j0
       ·obtain ⟨rfl,rfl⟩:=e2
        rw [List.getElem?_set_self hil] at hr'
        cases hr'
        rw [List.getElem?_set_self hjl] at ha'
        cases ha'
        simp only [and_self,if_true]
        exact g4
       ·rw [if_neg e2]
        have hold:∃ row0,rows[i']?=some row0∧row0[j']?=some a':=by
         by_cases e3:i0=i'
         ·subst e3
          rw [List.getElem?_set_self hil] at hr'
          cases hr'
          have e4:j0≠j':=fun e4=>e2 ⟨rfl,e4.symm⟩
          rw [List.getElem?_set_ne e4] at ha'
          exact ⟨row1,h1,ha'⟩
         ·rw [List.getElem?_set_ne e3] at hr'
          exact ⟨row',hr',ha'⟩
        obtain ⟨row0,h4,h5⟩:=hold
        exact hcell i' j' row0 a' h4 h5
    ·cases hp
end Go.Abs
namespace Go.Abs
structure Gh where
 ρ:Nat→Value
 G:Nat→List Value
 F:Nat→BS
def Yq (w:World) (h:Heap) (g:Gh) (r:Nat) (p:Path):Option (Value×Nat×Rows):=match h[r]?.join with
 | none=>none
 | some x=>match x.virt with
   | false=>walk w (g.ρ r) x.sz x.rows p
   | true=>match p with
     | []=>none
     | (i,j)::p=>match x.rows[i]? with
       | none=>none
       | some row=>match row[j]? with
         | some (.lst sz rows)=>match i,(g.G r)[j]? with
           | 0,some v=>walk w v sz rows p
           | _,_=>none
         | _=>none
def SubV (v0:Value) (off sz len:Nat) (v:Value):Prop :=
 (∃ b o n c c',v0=.slice (some ⟨b,o,none⟩) n c∧v=.slice (some ⟨b,o+off*sz,none⟩) len c'∧len≤c'∧off+c'≤c)∨(len=0∧∃ a,v=.slice a 0 0)
mutual
inductive VR (w:World) (h:Heap) (g:Gh):Value→AV→Prop
 | bool (b:Bool):VR w h g (.bool b) (.bool b)
 | int (k:IntKind) (n:Int):VR w h g (.int k n) (.int k n)
 | str (s:ByteArray):VR w h g (.string s) (.str s)
 | nilp:VR w h g (.pointer none) .nilp
 | nilf:VR w h g .nilFunc .nilf
 | emp:VR w h g (.slice none 0 0) .emp
 | undef (v:Value):VR w h g v .undef
 | ptr {r:Nat} {p:Path} {i j:Nat} {sz:Nat} {rows:Rows} {b o n c:Nat} (h1:Yq w h g r p=some (.slice (some ⟨b,o,none⟩) n c,sz,rows)) :
  VR w h g (.pointer (some ⟨b,o+i*sz+j,none⟩)) (.ptr r p i j)
 | ref {r:Nat} {p:Path} {sz:Nat} {rows:Rows} {v:Value} (h1:Yq w h g r p=some (v,sz,rows)):VR w h g v (.ref r p)
 | sub {r:Nat} {p:Path} {off len:Nat} {sz:Nat} {rows:Rows} {v0 v:Value} (h1:Yq w h g r p=some (v0,sz,rows)) (hl:off+len≤rows.length)
  (h2:SubV v0 off sz len v):VR w h g v (.sub r p off len)
 | lst {sz:Nat} {a:Option Addr}:VR w h g (.slice a 0 0) (.lst sz [])
 | fn {f:FuncId} {vs:List Value} {cs:List AV} (h1:VRs w h g vs cs):VR w h g (.func (.func f) #[] vs.toArray) (.fn f cs)
 | agg {vs:List Value} {cs:List AV} (h1:VRs w h g vs cs):VR w h g (.agg vs.toArray) (.agg cs)
 | tup {vs:List Value} {cs:List AV} (h1:VRs w h g vs cs):VR w h g (.tuple vs.toArray) (.tup cs)
inductive VRs (w:World) (h:Heap) (g:Gh):List Value→List AV→Prop
 | nil:VRs w h g [] []
 | cons {v:Value} {a:AV} {vs:List Value} {l:List AV} (h1:VR w h g v a) (h2:VRs w h g vs l):VRs w h g (v::vs) (a::l)
end
def isX (a:AV):Bool:=match a with
 | .ref _ _ | .sub _ _ _ _ | .ptr _ _ _ _ | .fn _ _=>true
 | _=>false
structure Wrs where
 can:CS
 dom:CS
instance:CoeFun Wrs (fun _=>CS):=⟨Wrs.can⟩
def Kr (w:World) (wr:Wrs) (ro:Bool):CS:=fun b q=>match ro with
 | true=>¬wr b q∧wr.dom b q
 | false=>wr b q∧w.frozen? ⟨b,q,none⟩=false
def Ut (w:World) (wr:Wrs) (h:Heap) (g:Gh) (ro:Bool) (S:BS) (v:Value) (a:AV):Prop:=match isX a with
 | true=>VR w h g v a
 | false=>TR w (!ro) (Kr w wr ro) S v a
def BoxR (w:World) (wr:Wrs) (h:Heap) (g:Gh) (r:Nat) (x:Root):Prop :=
 ∃ (b o:Nat) (cs:Array Value) (e:TypeId) (fz:Nat×Nat) (f:Nat→Nat→BS),g.ρ r=.slice (some ⟨b,o,none⟩) x.rows.length x.rows.length ∧
  w.heap[b]?=some (.cells cs e fz)∧o+x.rows.length*x.sz≤cs.size∧(∀ row∈x.rows,row.length=x.sz) ∧
  (∀ q,o≤q→q<o+x.rows.length*x.sz→Kr w wr x.ro b q)∧g.F r b∧(∀ i j k,f i j k→g.F r k) ∧
  (x.ro=false→(∀ i j,¬f i j b)∧∀ i j i' j' k,f i j k→f i' j' k→i=i'∧j=j') ∧
  ∀ (i j:Nat) (row:List AV) (a:AV),x.rows[i]?=some row→row[j]?=some a→Ut w wr h g x.ro (f i j) (cs.getD (o+i*x.sz+j) default) a
def X51 (w:World) (wr:Wrs) (g:Gh) (r:Nat) (x:Root):Prop :=
 ∃ (row:List AV) (f:Nat→BS),x.rows=[row]∧(g.G r).length=row.length∧(∀ j k,f j k→g.F r k) ∧
  (x.ro=false→∀ j j' k,f j k→f j' k→j=j') ∧
  ∀ (j:Nat) (a:AV) (v:Value),row[j]?=some a→(g.G r)[j]?=some v→TR w (!x.ro) (Kr w wr x.ro) (f j) v a
def Zu (w:World) (wr:Wrs) (h:Heap) (g:Gh) (r:Nat) (x:Root):Prop:=match x.virt with
 | true=>X51 w wr g r x
 | false=>match x.box with
   | true=>BoxR w wr h g r x
   | false=>TR w (!x.ro) (Kr w wr x.ro) (g.F r) (g.ρ r) (.lst x.sz x.rows)
structure Rel (w:World) (wr:Wrs) (h:Heap) (g:Gh):Prop where
 root:∀ r x,h[r]?.join=some x→Zu w wr h g r x
 sep:∀ r x r' x' k,h[r]?.join=some x→h[r']?.join=some x'→r≠r'→x.ro=false→g.F r k→¬g.F r' k
 low:∀ r x k,h[r]?.join=some x→g.F r k→k<w.heap.size
mutual
def Refs (P:Nat→Path→Prop):AV→Prop
 | .ref r p=>P r p
 | .sub r p _ _=>P r p
 | .ptr r p _ _=>P r p
 | .fn _ cs=>Vo P cs
 | .agg cs=>Vo P cs
 | .tup cs=>Vo P cs
 | .lst _ _=>True
 | .pv _=>True
 | .bool _=>True
 | .int _ _=>True
 | .str _=>True
 | .nilp=>True
 | .nilf=>True
 | .emp=>True
 | .undef=>True
def Vo (P:Nat→Path→Prop):List AV→Prop
 | []=>True
 | a::l=>Refs P a∧Vo P l
end
def Vf (P:Nat→Path→Prop) (w:World) (h:Heap) (g:Gh) (w':World) (h':Heap) (g':Gh):Prop :=
 ∀ r p v sz rows,P r p→Yq w h g r p=some (v,sz,rows)→∃ rows',Yq w' h' g' r p=some (v,sz,rows')∧rows'.length=rows.length
mutual
theorem VR.keep {P:Nat→Path→Prop} {w w':World} {h h':Heap} {g g':Gh} (H:Vf P w h g w' h' g') {v:Value}:∀ {a:AV},VR w h g v a→Refs P a→VR w' h' g' v a
 | _,.bool b,_=>.bool b
 | _,.int k n,_=>.int k n
 | _,.str s,_=>.str s
 | _,.nilp,_=>.nilp
 | _,.nilf,_=>.nilf
 | _,.emp,_=>.emp
 | _,.undef v,_=>.undef v
 | _,.ptr h1,hr=>let ⟨_,h2,_⟩:=H _ _ _ _ _ hr h1;.ptr h2
 | _,.ref h1,hr=>let ⟨_,h2,_⟩:=H _ _ _ _ _ hr h1;.ref h2
 | _,.sub h1 hl h3,hr=>let ⟨_,h2,h4⟩:=H _ _ _ _ _ hr h1;.sub h2 (by rw [h4];exact hl) h3
 | _,.lst,_=>.lst
 | _,.fn h1,hr=>.fn (VRs.keep H h1 hr)
 | _,.agg h1,hr=>.agg (VRs.keep H h1 hr)
 | _,.tup h1,hr=>.tup (VRs.keep H h1 hr)
theorem VRs.keep {P:Nat→Path→Prop} {w w':World} {h h':Heap} {g g':Gh} (H:Vf P w h g w' h' g'):∀ {vs:List Value} {l:List AV},VRs w h g vs l→Vo P l→VRs w' h' g' vs l
 | _,_,.nil,_=>.nil
 | _,_,.cons h1 h2,hr=>.cons (VR.keep H h1 hr.1) (VRs.keep H h2 hr.2)
end
mutual
theorem Refs.all {P:Nat→Path→Prop} (hP:∀ r p,P r p):∀ a,Refs P a
 | .ref _ _=>hP _ _
 | .sub _ _ _ _=>hP _ _
 | .ptr _ _ _ _=>hP _ _
 | .fn _ cs=>Vo.all hP cs
 | .agg cs=>Vo.all hP cs
 | .tup cs=>Vo.all hP cs
 | .lst _ _=>trivial
 | .pv _=>trivial
 | .bool _=>trivial
 | .int _ _=>trivial
 | .str _=>trivial
 | .nilp=>trivial
 | .nilf=>trivial
 | .emp=>trivial
 | .undef=>trivial
theorem Vo.all {P:Nat→Path→Prop} (hP:∀ r p,P r p):∀ l,Vo P l
 | []=>trivial
 | a::l=>⟨Refs.all hP a,Vo.all hP l⟩
end
end Go.Abs
namespace Go.Abs
def thru (r:Nat) (c:List Nat) (r':Nat) (p:Path):Bool:=if r'=r then pre c p else false
def kV0 (r:Nat) (c:List Nat) (v:AV):AV:=match v with
 | .ref r' p=>if thru r c r' p then .undef else v
 | .sub r' p _ _=>if thru r c r' p then .undef else v
 | .ptr r' p _ _=>if thru r c r' p then .undef else v
 | .agg _=>.undef
 | .tup _=>.undef
 | .fn _ _=>.undef
 | v=>v
def kV1 (r:Nat) (c:List Nat) (v:AV):AV:=match v with
 | .agg cs=>.agg (cs.map (kV0 r c))
 | .fn f cs=>.fn f (cs.map (kV0 r c))
 | v=>kV0 r c v
def kV2 (r:Nat) (c:List Nat) (v:AV):AV:=match v with
 | .tup cs=>.tup (cs.map (kV1 r c))
 | v=>kV1 r c v
def kRt (r:Nat) (c:List Nat) (x:Root):Root:=match x.box with
 | true=>{x with rows:=x.rows.map (·.map (kV1 r c))}
 | false=>x
def kHp (r:Nat) (c:List Nat) (h:Heap):Heap:=h.map (·.map (kRt r c))
def kSt (r:Nat) (c:List Nat) (st:St):St:=⟨st.env.map (kV2 r c),st.stk.map (·.map (kV2 r c)),kHp r c st.heap⟩
theorem Xyi (r:Nat) (c:List Nat) (v:AV) (k:AV→R):kv0 r c v k=k (kV0 r c v):=by
 cases v <;> simp only [kv0,kV0,thru] <;> (split <;> (try split) <;> simp_all)
theorem X3q (r:Nat) (c:List Nat) (l:List AV) (k:List AV→R):kl0 r c l k=k (l.map (kV0 r c)):=by
 induction l generalizing k with
 | nil=>rfl
 | cons a l ih=>simp only [kl0,Xyi,ih,List.map_cons]
theorem Xyj (r:Nat) (c:List Nat) (v:AV) (k:AV→R):kv1 r c v k=k (kV1 r c v):=by
 cases v <;> simp only [kv1,kV1,Xyi,X3q]
theorem Xyk (r:Nat) (c:List Nat) (l:List AV) (k:List AV→R):kl1 r c l k=k (l.map (kV1 r c)):=by
 induction l generalizing k with
 | nil=>rfl
 | cons a l ih=>simp only [kl1,Xyj,ih,List.map_cons]
theorem X3r (r:Nat) (c:List Nat) (v:AV) (k:AV→R):kv2 r c v k=k (kV2 r c v):=by
 cases v <;> simp only [kv2,kV2,Xyj,Xyk]
theorem Xyl (r:Nat) (c:List Nat) (l:List AV) (k:List AV→R):kl2 r c l k=k (l.map (kV2 r c)):=by
 induction l generalizing k with
 | nil=>rfl
 | cons a l ih=>simp only [kl2,X3r,ih,List.map_cons]
theorem Xym (r:Nat) (c:List Nat) (l:Rows) (k:Rows→R):Xuu r c l k=k (l.map (·.map (kV1 r c))):=by
 induction l generalizing k with
 | nil=>rfl
 | cons a l ih=>simp only [Xuu,Xyk,ih,List.map_cons]
theorem Xyn (r:Nat) (c:List Nat) (h:Heap) (k:Heap→R):Xuv r c h k=k (kHp r c h):=by
 induction h generalizing k with
 | nil=>rfl
 | cons a l ih =>
   simp only [Xuv,ih]
   cases a with
   | none=>rfl
   | some x =>
     obtain ⟨ro,virt,box,sz,rows⟩:=x
     cases box <;> simp [Xym,kHp,kRt]
theorem X03 (r:Nat) (c:List Nat) (l:List (List AV)) (k:List (List AV)→R):kstk r c l k=k (l.map (·.map (kV2 r c))):=by
 induction l generalizing k with
 | nil=>rfl
 | cons a l ih=>simp only [kstk,Xyl,ih,List.map_cons]
theorem Xlf (r:Nat) (c:List Nat) (st:St) (k:St→R):kill r c st k=k (kSt r c st):=by
 obtain ⟨e,s,h⟩:=st
 simp only [kill,Xyl,X03,Xyn,kSt]
theorem X04 (p:Path) (k:List Nat→R):cols p k=k (p.map Prod.snd):=by
 induction p generalizing k with
 | nil=>rfl
 | cons a p ih=>obtain ⟨i,j⟩:=a;simp only [cols,ih,List.map_cons]
theorem Xl3 (p:Path) (j:Nat) (k:List Nat→R):Xle p j k=k ((p++[(0,j)]).map Prod.snd):=by
 induction p generalizing k with
 | nil=>rfl
 | cons a p ih=>obtain ⟨i,j'⟩:=a;simp only [Xle,ih,List.cons_append,List.map_cons]
def Ww (r:Nat) (c:List Nat) (r':Nat) (p:Path):Prop:=thru r c r' p=false
theorem Xno {p q:Path} (h:p <+: q):pre (p.map Prod.snd) q=true:=by
 induction p generalizing q with
 | nil=>rfl
 | cons a p ih =>
   obtain ⟨i,j⟩:=a
   cases q with
   | nil=>simp at h
   | cons b q =>
     obtain ⟨i',j'⟩:=b
     simp only [List.cons_prefix_cons,Prod.mk.injEq] at h
     simp [pre,h.1.2,ih h.2]
theorem Xl4 {r:Nat} {p q:Path} (h:Ww r (p.map Prod.snd) r q):¬p <+: q:=fun hp=>by
 simp [Ww,thru,Xno hp] at h
section
variable {w:World} {h:Heap} {g:Gh}
theorem Xyo {r:Nat} {c:List Nat} {v:Value} {a:AV} (H:VR w h g v a):VR w h g v (kV0 r c a):=by
 cases a <;> simp only [kV0] <;> (first | exact H | exact .undef _ | (split <;> first | exact .undef _ | exact H))
theorem Xtd {r:Nat} {c:List Nat}:∀ {vs:List Value} {l:List AV},VRs w h g vs l→VRs w h g vs (l.map (kV0 r c))
 | _,_,.nil=>.nil
 | _,_,.cons h1 h2=>.cons (Xyo h1) (Xtd h2)
theorem Xl5 {r:Nat} {c:List Nat} {v:Value} {a:AV} (H:VR w h g v a):VR w h g v (kV1 r c a):=by
 cases H with
 | agg h1=>exact .agg (Xtd h1)
 | fn h1=>exact .fn (Xtd h1)
 | tup h1=>exact .undef _
 | _=>(simp only [kV1];apply Xyo;constructor <;> assumption)
theorem Xyp {r:Nat} {c:List Nat}:∀ {vs:List Value} {l:List AV},VRs w h g vs l→VRs w h g vs (l.map (kV1 r c))
 | _,_,.nil=>.nil
 | _,_,.cons h1 h2=>.cons (Xl5 h1) (Xyp h2)
theorem X3s {r:Nat} {c:List Nat} {v:Value} {a:AV} (H:VR w h g v a):VR w h g v (kV2 r c a):=by
 cases H with
 | tup h1=>exact .tup (Xyp h1)
 | agg h1=>exact Xl5 (.agg h1)
 | fn h1=>exact Xl5 (.fn h1)
 | _=>(simp only [kV2];apply Xl5;constructor <;> assumption)
theorem Xte {r:Nat} {c:List Nat}:∀ {vs:List Value} {l:List AV},VRs w h g vs l→VRs w h g vs (l.map (kV2 r c))
 | _,_,.nil=>.nil
 | _,_,.cons h1 h2=>.cons (X3s h1) (Xte h2)
end
theorem Xl6 {r:Nat} {c:List Nat} (a:AV):Refs (Ww r c) (kV0 r c a):=by
 cases a <;> simp only [kV0] <;> (try simp only [Refs]) <;> (split <;> simp_all [Refs,Ww])
theorem Xgb {P:Nat→Path→Prop} {f:AV→AV} {l:List AV} (h:∀ a∈l,Refs P (f a)):Vo P (l.map f):=by
 induction l with
 | nil=>trivial
 | cons a l ih=>exact ⟨h a (by simp),ih fun b hb=>h b (by simp [hb])⟩
theorem Xfa {r:Nat} {c:List Nat} (a:AV):Refs (Ww r c) (kV1 r c a):=by
 cases a with
 | agg cs=>exact Xgb fun a _=>Xl6 a
 | fn f cs=>exact Xgb fun a _=>Xl6 a
 | tup cs=>exact trivial
 | _=>(simp only [kV1];apply Xl6)
theorem Xyq {r:Nat} {c:List Nat} (a:AV):Refs (Ww r c) (kV2 r c a):=by
 cases a with
 | tup cs=>exact Xgb fun a _=>Xfa a
 | agg cs=>exact Xfa (.agg cs)
 | fn f cs=>exact Xfa (.fn f cs)
 | _=>(simp only [kV2];apply Xfa)
theorem Xrc {r:Nat} {c:List Nat} (l:List AV):Vo (Ww r c) (l.map (kV2 r c)):=Xgb fun a _=>Xyq a
end Go.Abs
namespace Go.Abs
def Xcd (P:Nat→Path→Prop) (h:Heap):Prop:=∀ (r:Nat) (x:Root) (row:List AV) (a:AV),h[r]?.join=some x→x.box=true→row∈x.rows→a∈row→isX a=true→Refs P a
theorem Xrd {w w':World} {b q:Nat} (h:w'.heap[b]?=w.heap[b]?):w'.frozen? ⟨b,q,none⟩=w.frozen? ⟨b,q,none⟩:=by simp [World.frozen?,h]
theorem Xvj {w w':World} {wr:Wrs} {ro:Bool} {b q:Nat} (h:w'.heap[b]?=w.heap[b]?) (hk:Kr w wr ro b q):Kr w' wr ro b q:=by
 cases ro
 ·exact ⟨hk.1,by rw [Xrd h];exact hk.2⟩
 ·exact hk
theorem TR.same {w w':World} {wr:Wrs} {ro own:Bool} {S:BS} {v:Value} {a:AV} (h:TR w own (Kr w wr ro) S v a) (hw:∀ b,S b→w'.heap[b]?=w.heap[b]?):TR w' own (Kr w' wr ro) S v a :=
 (h.world hw).mono (fun _ h=>h) (fun b _ hb hk=>Xvj (hw b hb) hk)
theorem mem_get {α:Type} {l:List α} {i:Nat} {a:α} (h:l[i]?=some a):a∈l:=List.mem_of_getElem? h
theorem Rel.change {w w':World} {wr:Wrs} {h h':Heap} {g g':Gh} {P:Nat→Path→Prop} {r:Nat} {X:Option Root} (R:Rel w wr h g) (hP:Xcd P h) (hk:Vf P w h g w' h' g')
 (eh:∀ r',h'[r']?.join=if r'=r then X else h[r']?.join) (hsz:w.heap.size≤w'.heap.size)
 (hw:∀ r' x' k,r'≠r→h[r']?.join=some x'→g.F r' k→w'.heap[k]?=w.heap[k]?)
 (hg:∀ r',r'≠r→g'.ρ r'=g.ρ r'∧g'.G r'=g.G r'∧g'.F r'=g.F r')
 (hX:∀ x,X=some x→Zu w' wr h' g' r x)
 (hsep:∀ x,X=some x→∀ r' x' k,r'≠r→h[r']?.join=some x'→(x.ro=false∨x'.ro=false)→g'.F r k→¬g.F r' k)
 (hlow:∀ x,X=some x→∀ k,g'.F r k→k<w'.heap.size):Rel w' wr h' g':=by
 refine ⟨fun r' x hx=>?_,fun r1 x1 r2 x2 k h1 h2 hne hro hF1 hF2=>?_,fun r' x k hx hF=>?_⟩
 ·rw [eh] at hx
  by_cases e:r'=r
  ·subst e
   rw [if_pos rfl] at hx
   exact hX x hx
  ·rw [if_neg e] at hx
   obtain ⟨e1,e2,e3⟩:=hg r' e
   have hb:=hw r' x
   have hold:=R.root r' x hx
   have hsame:∀ k,g.F r' k→w'.heap[k]?=w.heap[k]?:=fun k hF=>hw r' x k e hx hF
   unfold Zu at hold ⊢
   split
   ·rename_i hv
    simp only [hv] at hold
    obtain ⟨row,f,h1,h2,h3,h4,h5⟩:=hold
    refine ⟨row,f,h1,by rw [e2];exact h2,fun j k hk'=>by rw [e3];exact h3 j k hk',h4,fun j a v ha hv'=>?_⟩
    rw [e2] at hv'
    exact (h5 j a v ha hv').same (fun b hb'=>hsame b (h3 j b hb'))
   ·rename_i hv
    simp only [hv] at hold
    split
    ·rename_i hbx
     simp only [hbx] at hold
     obtain ⟨b,o,cs,e0,fz,f,h1,h2,h3,h4,h5,h6,h7,h8,h9⟩:=hold
     refine ⟨b,o,cs,e0,fz,f,by rw [e1];exact h1,(hsame b h6).trans h2,h3,h4,fun q q1 q2=>Xvj (hsame b h6) (h5 q q1 q2),by rw [e3];exact h6,fun i j k hk'=>by rw [e3];exact h7 i j k hk',h8,fun i j row a hr ha=>?_⟩
     have hc:=h9 i j row a hr ha
     unfold Ut at hc ⊢
     split
     ·rename_i hx'
      simp only [hx'] at hc
      exact VR.keep hk hc (hP r' x row a hx hbx (mem_get hr) (mem_get ha) hx')
     ·rename_i hx'
      simp only [hx'] at hc
      exact hc.same (fun b hb'=>hsame b (h7 i j b hb'))
    ·rename_i hbx
     simp only [hbx] at hold
     rw [e1,e3]
     exact hold.same hsame
 ·rw [eh] at h1 h2
  by_cases e1:r1=r
  ·subst e1
   rw [if_pos rfl] at h1
   rw [if_neg (Ne.symm hne)] at h2
   rw [(hg r2 (Ne.symm hne)).2.2] at hF2
   exact hsep x1 h1 r2 x2 k (Ne.symm hne) h2 (.inl hro) hF1 hF2
  ·rw [if_neg e1] at h1
   rw [(hg r1 e1).2.2] at hF1
   by_cases e2:r2=r
   ·subst e2
    rw [if_pos rfl] at h2
    exact hsep x2 h2 r1 x1 k e1 h1 (.inr hro) hF2 hF1
   ·rw [if_neg e2] at h2
    rw [(hg r2 e2).2.2] at hF2
    exact R.sep r1 x1 r2 x2 k h1 h2 hne hro hF1 hF2
 ·rw [eh] at hx
  by_cases e:r'=r
  ·subst e
   rw [if_pos rfl] at hx
   exact hlow x hx k hF
  ·rw [if_neg e] at hx
   rw [(hg r' e).2.2] at hF
   exact Nat.lt_of_lt_of_le (R.low r' x k hx hF) hsz
theorem Xlg (r:Nat) (c:List Nat) (sz:Nat) (rows:Rows):kV1 r c (.lst sz rows)=.lst sz rows:=rfl
theorem Xp0 {w:World} {own:Bool} {K:CS} {S:BS} {v:Value} {a:AV} (r:Nat) (c:List Nat) (h:TR w own K S v a):kV1 r c a=a∧isX a=false:=by
 cases h <;> exact ⟨rfl,rfl⟩
theorem Xwp {w:World} (r:Nat) (c:List Nat) {v:Value} {sz:Nat} {rows:Rows} {p:Path} {v':Value} {sz':Nat} {rows':Rows} (h:walk w v sz rows p=some (v',sz',rows')) :
 ∃ rows'',walk w v sz (rows.map (·.map (kV1 r c))) p=some (v',sz',rows'')∧rows''.length=rows'.length:=by
 cases p with
 | nil =>
   simp only [walk,Option.some.injEq,Prod.mk.injEq] at h
   obtain ⟨rfl,rfl,rfl⟩:=h
   exact ⟨_,rfl,by simp⟩
 | cons q p =>
   obtain ⟨i,j⟩:=q
   simp only [walk] at h
   split at h
   ·split at h
    ·cases h
    ·rename_i row h1
     split at h
     ·rename_i h2
      exact ⟨rows',by simp only [walk,List.getElem?_map,h1,h2,Option.map_some,Xlg];exact h,rfl⟩
     ·cases h
   ·cases h
theorem Uy (r:Nat) (c:List Nat) (h:Heap) (r':Nat):(kHp r c h)[r']?.join=h[r']?.join.map (kRt r c):=by
 simp only [kHp,List.getElem?_map]
 cases h[r']? with
 | none=>rfl
 | some x=>cases x <;> rfl
theorem Ql (r:Nat) (c:List Nat) (x:Root):(kRt r c x).ro=x.ro∧(kRt r c x).virt=x.virt∧(kRt r c x).box=x.box∧(kRt r c x).sz=x.sz:=by
 unfold kRt
 split <;> simp_all
theorem Xb3 {w:World} {h:Heap} {g:Gh} (r:Nat) (c:List Nat):Vf (fun _ _=>True) w h g w (kHp r c h) g:=by
 intro r' p v sz rows _ hh
 unfold Yq at hh ⊢
 rw [Uy]
 cases hx:h[r']?.join with
 | none=>simp [hx] at hh
 | some x =>
   simp only [hx,Option.map_some] at hh ⊢
   obtain ⟨f1,f2,f3,f4⟩:=Ql r c x
   rw [f2,f4]
   cases hb:x.box with
   | false =>
     have:kRt r c x=x:=by simp [kRt,hb]
     rw [this]
     exact ⟨rows,hh,rfl⟩
   | true =>
     have:(kRt r c x).rows=x.rows.map (·.map (kV1 r c)):=by simp [kRt,hb]
     rw [this]
     cases hv:x.virt with
     | false=>simp only [hv] at hh ⊢;exact Xwp r c hh
     | true =>
       simp only [hv] at hh ⊢
       cases p with
       | nil=>simp at hh
       | cons q p =>
         obtain ⟨i,j⟩:=q
         simp only at hh ⊢
         split at hh
         ·cases hh
         ·rename_i row h1
          split at hh
          ·rename_i h2
           split at hh
           ·rename_i h3
            exact ⟨rows,by simp only [List.getElem?_map,h1,h2,Option.map_some,Xlg,h3];exact hh,rfl⟩
           ·cases hh
          ·cases hh
theorem Xcd.all {P:Nat→Path→Prop} (hP:∀ r p,P r p) (h:Heap):Xcd P h:=fun _ _ _ a _ _ _ _ _=>Refs.all hP a
theorem Xyr (r:Nat) (c:List Nat) (h:Heap):Xcd (Ww r c) (kHp r c h):=by
 intro r' x row a hx hb hrow ha _
 rw [Uy] at hx
 cases hx0:h[r']?.join with
 | none=>simp [hx0] at hx
 | some x0 =>
   simp only [hx0,Option.map_some,Option.some.injEq] at hx
   subst hx
   rw [(Ql r c x0).2.2.1] at hb
   have:(kRt r c x0).rows=x0.rows.map (·.map (kV1 r c)):=by simp [kRt,hb]
   rw [this] at hrow
   obtain ⟨row0,_,rfl⟩:=List.mem_map.1 hrow
   obtain ⟨a0,_,rfl⟩:=List.mem_map.1 ha
   exact Xfa a0
theorem Rel.kill {w:World} {wr:Wrs} {h:Heap} {g:Gh} (R:Rel w wr h g) (r:Nat) (c:List Nat):Rel w wr (kHp r c h) g:=by
 have key:∀ (r':Nat) (x:Root),(kHp r c h)[r']?.join=some x→∃ x0,h[r']?.join=some x0∧x=kRt r c x0:=by
  intro r' x hx
  rw [Uy] at hx
  cases hx0:h[r']?.join with
  | none=>simp [hx0] at hx
  | some x0=>simp only [hx0,Option.map_some,Option.some.injEq] at hx;exact ⟨x0,rfl,hx.symm⟩
 refine ⟨fun r' x hx=>?_,fun r1 x1 r2 x2 k h1 h2 hne hro=>?_,fun r' x k hx hF=>?_⟩
 ·obtain ⟨x0,hx0,rfl⟩:=key r' x hx
  have hold:=R.root r' x0 hx0
  obtain ⟨f1,f2,f3,f4⟩:=Ql r c x0
  unfold Zu at hold ⊢
  rw [f2,f3,f1,f4]
  cases hb:x0.box with
  | false =>
    have e:kRt r c x0=x0:=by simp [kRt,hb]
    rw [e]
    cases hv:x0.virt with
    | true=>simp only [hv] at hold ⊢;exact hold
    | false=>simp only [hv,hb] at hold ⊢;exact hold
  | true =>
    have e:(kRt r c x0).rows=x0.rows.map (·.map (kV1 r c)):=by simp [kRt,hb]
    cases hv:x0.virt with
    | true =>
      simp only [hv] at hold ⊢
      obtain ⟨row,f,h1,h2,h3,h4,h5⟩:=hold
      have e2:row.map (kV1 r c)=row:=by
       apply List.ext_getElem?
       intro j
       rw [List.getElem?_map]
       cases ha:row[j]? with
       | none=>rfl
       | some a =>
         have hj:j<row.length:=(List.getElem?_eq_some_iff.1 ha).1
         have:=h5 j a ((g.G r')[j]'(by omega)) ha (by simp)
         simp [(Xp0 r c this).1]
      refine ⟨row,f,by rw [e,h1];simp [e2],h2,h3,by rw [f1];exact h4,?_⟩
      rw [f1]
      exact h5
    | false =>
      simp only [hv,hb] at hold ⊢
      obtain ⟨b,o,cs,e0,fz,f,h1,h2,h3,h4,h5,h6,h7,h8,h9⟩:=hold
      refine ⟨b,o,cs,e0,fz,f,by rw [e,List.length_map];exact h1,h2,by rw [e,List.length_map,f4];exact h3,?_,by rw [e,List.length_map,f4,f1];exact h5,h6,h7,by rw [f1];exact h8,?_⟩
      ·intro row hrow
       rw [e] at hrow
       obtain ⟨row0,hr0,rfl⟩:=List.mem_map.1 hrow
       rw [List.length_map,f4]
       exact h4 row0 hr0
      ·intro i j row a hr ha
       rw [e,List.getElem?_map] at hr
       cases hr0:x0.rows[i]? with
       | none=>simp [hr0] at hr
       | some row0 =>
         simp only [hr0,Option.map_some,Option.some.injEq] at hr
         subst hr
         rw [List.getElem?_map] at ha
         cases ha0:row0[j]? with
         | none=>simp [ha0] at ha
         | some a0 =>
           simp only [ha0,Option.map_some,Option.some.injEq] at ha
           subst ha
           have hc:=h9 i j row0 a0 hr0 ha0
           rw [f1,f4]
           unfold Ut at hc ⊢
           cases hx':isX a0 with
           | false =>
             simp only [hx'] at hc
             obtain ⟨k1,k2⟩:=Xp0 r c hc
             rw [k1,hx']
             exact hc
           | true =>
             simp only [hx'] at hc
             have hv':=VR.keep (Xb3 r c) (Xl5 (r:=r) (c:=c) hc) (Refs.all (fun _ _=>trivial) _)
             cases hx2:isX (kV1 r c a0) with
             | true=>exact hv'
             | false =>
               have:kV1 r c a0=.undef:=by
                cases a0 <;> simp only [isX] at hx' <;> simp only [kV1,kV0] at hx2 ⊢ <;> first | (cases hx';done) | (split <;> simp_all [isX]) | simp_all [isX]
               rw [this]
               exact .undef _
 ·obtain ⟨y1,hy1,rfl⟩:=key r1 x1 h1
  obtain ⟨y2,hy2,rfl⟩:=key r2 x2 h2
  rw [(Ql r c y1).1] at hro
  exact R.sep r1 y1 r2 y2 k hy1 hy2 hne hro
 ·obtain ⟨x0,hx0,rfl⟩:=key r' x hx
  exact R.low r' x0 k hx0 hF
end Go.Abs
namespace Go.Abs
theorem Xwq {h:Heap} {n:Nat} {k:R} {r:Res} (hh:Xuw h n k=some r):h[n]?.join=none∧k=some r:=by
 induction h generalizing n with
 | nil=>exact ⟨by simp,hh⟩
 | cons a l ih =>
   cases n with
   | zero=>cases a with
     | none=>exact ⟨rfl,hh⟩
     | some x=>simp [Xuw] at hh
   | succ n=>simpa using ih hh
theorem W2 {st:St} {slot:Nat} {x:Root} {k:St→R} {r:Res} (hh:V0 st slot x k=some r) :
 st.heap[slot]?.join=none∧k ⟨st.env,st.stk,put st.heap slot (some x)⟩=some r:=by
 obtain ⟨e,s,h⟩:=st
 obtain ⟨h1,h2⟩:=Xwq hh
 exact ⟨h1,Xe8 h2⟩
theorem Qa {w:World} {b o n c:Nat} {cs:Array Value} {e:TypeId} {fz:Nat×Nat} {sz:Nat} {rows:Rows} {i j:Nat} {p:Path} (hb:w.heap[b]?=some (.cells cs e fz)) :
 walk w (.slice (some ⟨b,o,none⟩) n c) sz rows ((i,j)::p)=match rows[i]? with
  | none=>none
  | some row=>match row[j]? with
    | some (.lst sz1 rows1)=>match cs[o+i*sz+j]? with
      | some v1=>walk w v1 sz1 rows1 p
      | none=>none
    | _=>none:=by
 (simp only [walk,Wj hb]) <;> rfl
theorem Xa5 {cs:Array Value} {q:Nat} {v:Value} (h:cs[q]?=some v):cs.getD q default=v:=by simp [Array.getD_eq_getD_getElem?,h]
theorem Xao {w w':World} {wr:Wrs} {h h':Heap} {g g':Gh} {r:Nat} {p:Path} (R:∀ x,h[r]?.join=some x→Zu w wr h g r x) (eh:h'[r]?.join=h[r]?.join)
 (hg:g'.ρ r=g.ρ r∧g'.G r=g.G r) (hw:∀ x k,h[r]?.join=some x→g.F r k→w'.heap[k]?=w.heap[k]?):Yq w' h' g' r p=Yq w h g r p:=by
 unfold Yq
 rw [eh,hg.1,hg.2]
 cases hx:h[r]?.join with
 | none=>rfl
 | some x =>
   simp only
   have hR:=R x hx
   unfold Zu at hR
   cases hv:x.virt with
   | true =>
     simp only [hv] at hR
     obtain ⟨row,f,h1,h2,h3,h4,h5⟩:=hR
     simp only
     cases p with
     | nil=>rfl
     | cons q p =>
       obtain ⟨i,j⟩:=q
       simp only
       cases e1:x.rows[i]? with
       | none=>rfl
       | some row' =>
         simp only
         cases e2:row'[j]? with
         | none=>rfl
         | some a =>
           cases a <;> simp only
           rename_i sz rows
           cases i with
           | succ i=>rfl
           | zero =>
             rw [h1] at e1
             simp only [List.getElem?_cons_zero,Option.some.injEq] at e1
             subst e1
             cases e3:(g.G r)[j]? with
             | none=>rfl
             | some v=>exact Us (h5 j _ v e2 e3) (fun b hb=>hw x b hx (h3 j b hb))
   | false =>
     simp only [hv] at hR
     simp only
     cases hbx:x.box with
     | false =>
       simp only [hbx] at hR
       exact Us hR (fun b hb=>hw x b hx hb)
     | true =>
       simp only [hbx] at hR
       obtain ⟨b,o,cs,e0,fz,f,h1,h2,h3,h4,h5,h6,h7,h8,h9⟩:=hR
       rw [h1]
       cases p with
       | nil=>rfl
       | cons q p =>
         obtain ⟨i,j⟩:=q
         rw [Qa h2,Qa ((hw x b hx h6).trans h2)]
         cases e1:x.rows[i]? with
         | none=>rfl
         | some row =>
           simp only
           cases e2:row[j]? with
           | none=>rfl
           | some a =>
             cases a <;> simp only
             rename_i sz rows
             cases e3:cs[o+i*x.sz+j]? with
             | none=>rfl
             | some v =>
               have hc:=h9 i j row _ e1 e2
               simp only [Ut,isX,Xa5 e3] at hc
               exact Us hc (fun k hk=>hw x k hx (h7 i j k hk))
theorem Rel.new {w w':World} {wr:Wrs} {h:Heap} {g:Gh} (R:Rel w wr h g) {slot:Nat} (hs:h[slot]?.join=none) (hsz:w.heap.size≤w'.heap.size)
 (hw:∀ k,k<w.heap.size→w'.heap[k]?=w.heap[k]?) (x:Root) (ρ0:Value) (G0:List Value) (F0:BS) (hF:∀ k,F0 k→k<w'.heap.size∧w.heap.size≤k)
 (g':Gh) (hg':g'=⟨fun r=>if r=slot then ρ0 else g.ρ r,fun r=>if r=slot then G0 else g.G r,fun r=>if r=slot then F0 else g.F r⟩)
 (hX:Rel w wr h g→Vf (fun _ _=>True) w h g w' (put h slot (some x)) g'→Zu w' wr (put h slot (some x)) g' slot x) :
 Rel w' wr (put h slot (some x)) g'∧Vf (fun _ _=>True) w h g w' (put h slot (some x)) g':=by
 have hne:∀ r',r'≠slot→g'.ρ r'=g.ρ r'∧g'.G r'=g.G r'∧g'.F r'=g.F r':=fun r' hr=>by subst hg';simp [hr]
 have hself:g'.F slot=F0:=by subst hg';simp
 have keeps:Vf (fun _ _=>True) w h g w' (put h slot (some x)) g':=by
  intro r p v sz rows _ hh
  by_cases e:r=slot
  ·subst e
   simp [Yq,hs] at hh
  ·refine ⟨rows,?_,rfl⟩
   rw [Xao (fun x hx=>R.root r x hx) (by rw [Wv,if_neg e]) ⟨(hne r e).1,(hne r e).2.1⟩ (fun x k hx hF=>hw k (R.low r x k hx hF))]
   exact hh
 refine ⟨R.change (r:=slot) (X:=some x) (Xcd.all (fun _ _=>trivial) h) keeps (fun r'=>Wv _ _ _ _) hsz (fun r' x' k _ hx hF=>hw k (R.low r' x' k hx hF)) hne
  (fun x' hx'=>by cases hx';exact hX R keeps) (fun x' _ r' y k hr hy _ hF1 hF2=>?_) (fun x' _ k hk=>by rw [hself] at hk;exact (hF k hk).1),keeps⟩
 rw [hself] at hF1
 have:=R.low r' y k hy hF2
 have:=(hF k hF1).2
 omega
end Go.Abs
namespace Go.Abs
theorem Xkk {w:World} {v:Value} {sz:Nat} {rows:Rows} {p q:Path} {v':Value} {sz':Nat} {rows':Rows} (h:walk w v sz rows p=some (v',sz',rows')) :
 walk w v sz rows (p++q)=walk w v' sz' rows' q:=by
 induction p generalizing v sz rows with
 | nil=>simp only [walk,Option.some.injEq,Prod.mk.injEq] at h;obtain ⟨rfl,rfl,rfl⟩:=h;rfl
 | cons a p ih =>
   obtain ⟨i,j⟩:=a
   simp only [walk] at h
   split at h
   ·split at h
    ·cases h
    ·rename_i row h1
     split at h
     ·rename_i h2
      split at h
      ·rename_i h3
       simp only [List.cons_append,walk,h1,h2,h3]
       exact ih h
      ·cases h
     ·cases h
   ·cases h
theorem Xhw {w:World} {h:Heap} {g:Gh} {r:Nat} {p q:Path} {v:Value} {sz:Nat} {rows:Rows} (hh:Yq w h g r p=some (v,sz,rows)) :
 Yq w h g r (p++q)=walk w v sz rows q:=by
 unfold Yq at hh ⊢
 cases hx:h[r]?.join with
 | none=>simp [hx] at hh
 | some x =>
   simp only [hx] at hh ⊢
   cases hv:x.virt with
   | false=>simp only [hv] at hh ⊢;exact Xkk hh
   | true =>
     simp only [hv] at hh ⊢
     cases p with
     | nil=>simp at hh
     | cons a p =>
       obtain ⟨i,j⟩:=a
       dsimp only at hh
       simp only [List.cons_append]
       split at hh
       ·cases hh
       ·rename_i row h1
        split at hh
        ·rename_i h2
         split at hh
         ·rename_i h3
          exact Xkk hh
         ·cases hh
        ·cases hh
theorem Yr {w:World} {h:Heap} {g:Gh} {r:Nat} {p:Path} {v:Value} {sz:Nat} {rows:Rows} (hh:Yq w h g r p=some (v,sz,rows)) :
 ∃ x,h[r]?.join=some x∧resR p x.sz x.rows=some (sz,rows)∧(x.virt=true→p≠[]):=by
 unfold Yq at hh
 cases hx:h[r]?.join with
 | none=>simp [hx] at hh
 | some x =>
   simp only [hx] at hh
   refine ⟨x,rfl,?_⟩
   cases hv:x.virt with
   | false=>simp only [hv] at hh;exact ⟨Xe9 hh,fun h=>by cases h⟩
   | true =>
     simp only [hv] at hh
     cases p with
     | nil=>simp at hh
     | cons a p =>
       obtain ⟨i,j⟩:=a
       dsimp only at hh
       split at hh
       ·cases hh
       ·rename_i row h1
        split at hh
        ·rename_i h2
         split at hh
         ·exact ⟨by simp only [resR,h1,h2];exact Xe9 hh,fun _=>by simp⟩
         ·cases hh
        ·cases hh
theorem Rel.walks {w:World} {wr:Wrs} {h:Heap} {g:Gh} (R:Rel w wr h g) {r:Nat} {p:Path} {x:Root} {sz:Nat} {rows:Rows} (hx:h[r]?.join=some x) (hp:resR p x.sz x.rows=some (sz,rows))
 (hv:x.virt=true→p≠[]):∃ v,Yq w h g r p=some (v,sz,rows) ∧
  ((p=[]∧x.box=true)∨∃ S,TR w (!x.ro) (Kr w wr x.ro) S v (.lst sz rows)∧∀ k,S k→g.F r k):=by
 have hR:=R.root r x hx
 unfold Zu at hR
 unfold Yq
 simp only [hx]
 cases hvt:x.virt with
 | true =>
   simp only [hvt] at hR
   obtain ⟨row,f,h1,h2,h3,h4,h5⟩:=hR
   cases p with
   | nil=>exact absurd rfl (hv hvt)
   | cons a p =>
     obtain ⟨i,j⟩:=a
     simp only [resR] at hp
     split at hp
     ·cases hp
     ·rename_i row' e1
      split at hp
      ·rename_i sz1 rows1 e2
       rw [h1] at e1
       cases i with
       | succ i=>simp at e1
       | zero =>
         simp only [List.getElem?_cons_zero,Option.some.injEq] at e1
         subst e1
         have hj:j<row.length:=(List.getElem?_eq_some_iff.1 e2).1
         have e3:(g.G r)[j]?=some ((g.G r)[j]'(by omega)):=by simp
         obtain ⟨v',S',k1,k2,k3⟩:=(h5 j _ _ e2 e3).get hp
         refine ⟨v',?_,.inr ⟨S',k2,fun k hk=>h3 j k (k3 k hk)⟩⟩
         simp only [h1,List.getElem?_cons_zero,e2,e3]
         exact k1
      ·cases hp
 | false =>
   simp only [hvt] at hR
   cases hbx:x.box with
   | false =>
     simp only [hbx] at hR
     obtain ⟨v',S',k1,k2,k3⟩:=hR.get hp
     exact ⟨v',k1,.inr ⟨S',k2,k3⟩⟩
   | true =>
     simp only [hbx] at hR
     cases p with
     | nil =>
       simp only [resR,Option.some.injEq,Prod.mk.injEq] at hp
       obtain ⟨rfl,rfl⟩:=hp
       exact ⟨g.ρ r,rfl,.inl ⟨rfl,rfl⟩⟩
     | cons a p =>
       obtain ⟨i,j⟩:=a
       obtain ⟨b,o,cs,e0,fz,f,h1,h2,h3,h4,h5,h6,h7,h8,h9⟩:=hR
       simp only [resR] at hp
       split at hp
       ·cases hp
       ·rename_i row e1
        split at hp
        ·rename_i sz1 rows1 e2
         have hi:i<x.rows.length:=(List.getElem?_eq_some_iff.1 e1).1
         have hj:j<x.sz:=by rw [←h4 row (mem_get e1)];exact (List.getElem?_eq_some_iff.1 e2).1
         have hq:o+i*x.sz+j<cs.size:=Nat.lt_of_lt_of_le (Q0 hi (Nat.le_refl _) hj) h3
         have hc:=h9 i j row _ e1 e2
         simp only [Ut,isX] at hc
         obtain ⟨v',S',k1,k2,k3⟩:=hc.get hp
         refine ⟨v',?_,.inr ⟨S',k2,fun k hk=>h7 i j k (k3 k hk)⟩⟩
         have e3:cs[o+i*x.sz+j]?=some (cs.getD (o+i*x.sz+j) default):=by simp [Array.getD_eq_getD_getElem?,hq]
         simp only
         rw [h1,Qa h2]
         simp only [e1,e2,e3]
         exact k1
        ·cases hp
theorem TR.leafVR {w:World} {own:Bool} {K:CS} {S:BS} {v:Value} {a:AV} (h:TR w own K S v a) (w':World) (hp:Heap) (g:Gh) (hn:∀ sz rows,a≠.lst sz rows):VR w' hp g v a:=by
 cases h with
 | bool b=>exact .bool b
 | int k n=>exact .int k n
 | str s=>exact .str s
 | nilp=>exact .nilp
 | nilf=>exact .nilf
 | undef v=>exact .undef v
 | nil=>exact .lst
 | lst=>exact absurd rfl (hn _ _)
theorem Rel.cell {w:World} {wr:Wrs} {h:Heap} {g:Gh} (R:Rel w wr h g) {r:Nat} {p:Path} {v:Value} {sz:Nat} {rows:Rows} {i j:Nat} {row:List AV} {a:AV}
 (hp:Yq w h g r p=some (v,sz,rows)) (hi:rows[i]?=some row) (hj:row[j]?=some a) :
 ∃ b o n c u,v=.slice (some ⟨b,o,none⟩) n c∧w.cell? ⟨b,o+i*sz+j,none⟩=some u∧row.length=sz ∧
  ((∃ sz' rows',a=.lst sz' rows'∧Yq w h g r (p++[(i,j)])=some (u,sz',rows'))∨((∀ sz' rows',a≠.lst sz' rows')∧VR w h g u a)):=by
 obtain ⟨x,hx,hres,hvp⟩:=Yr hp
 obtain ⟨v',hw',hcase⟩:=R.walks hx hres hvp
 rw [hp] at hw'
 simp only [Option.some.injEq,Prod.mk.injEq,and_true] at hw'
 subst hw'
 rw [Xhw hp]
 have fin:∀ (b o n c:Nat) (cs:Array Value) (e:TypeId) (fz:Nat×Nat),w.heap[b]?=some (.cells cs e fz)→v=.slice (some ⟨b,o,none⟩) n c→o+i*sz+j<cs.size→row.length=sz →
  ((∀ sz' rows',a≠.lst sz' rows')→VR w h g (cs.getD (o+i*sz+j) default) a) →
  ∃ b o n c u,v=.slice (some ⟨b,o,none⟩) n c∧w.cell? ⟨b,o+i*sz+j,none⟩=some u∧row.length=sz ∧
  ((∃ sz' rows',a=.lst sz' rows'∧walk w v sz rows [(i,j)]=some (u,sz',rows'))∨((∀ sz' rows',a≠.lst sz' rows')∧VR w h g u a)):=by
  intro b o n c cs e fz hb hv hq hl hvr
  have e3:cs[o+i*sz+j]?=some (cs.getD (o+i*sz+j) default):=by simp [Array.getD_eq_getD_getElem?,hq]
  refine ⟨b,o,n,c,cs.getD (o+i*sz+j) default,hv,by rw [Wj hb];exact e3,hl,?_⟩
  by_cases hlst:∃ sz' rows',a=.lst sz' rows'
  ·obtain ⟨sz',rows',rfl⟩:=hlst
   refine .inl ⟨sz',rows',rfl,?_⟩
   rw [hv,Qa hb]
   simp only [hi,hj,e3,walk]
  ·exact .inr ⟨fun s t e=>hlst ⟨s,t,e⟩,hvr fun s t e=>hlst ⟨s,t,e⟩⟩
 rcases hcase with ⟨rfl,hbx⟩ | ⟨S,hT,_⟩
 ·have hvt:x.virt=false:=by cases hvt:x.virt with | false=>rfl | true=>exact absurd rfl (hvp hvt)
  have hR:=R.root r x hx
  unfold Zu at hR
  simp only [hvt,hbx] at hR
  obtain ⟨b,o,cs,e0,fz,f,h1,h2,h3,h4,h5,h6,h7,h8,h9⟩:=hR
  simp only [resR,Option.some.injEq,Prod.mk.injEq] at hres
  obtain ⟨rfl,rfl⟩:=hres
  have hv:v=g.ρ r:=by
   simp only [Yq,hx,hvt,walk,Option.some.injEq,Prod.mk.injEq] at hp
   exact hp.1.symm
  have hil:i<x.rows.length:=(List.getElem?_eq_some_iff.1 hi).1
  have hl:=h4 row (mem_get hi)
  have hjl:j<x.sz:=by rw [←hl];exact (List.getElem?_eq_some_iff.1 hj).1
  refine fin b o _ _ cs e0 fz h2 (hv.trans h1) (Nat.lt_of_lt_of_le (Q0 hil (Nat.le_refl _) hjl) h3) hl fun hn=>?_
  have hc:=h9 i j row a hi hj
  unfold Ut at hc
  split at hc
  ·exact hc
  ·exact hc.leafVR w h g hn
 ·rcases hT.lst_inv with ⟨rfl,_⟩ | ⟨b,o,c,cs,e,fz,f,hv,hb,hs,hc,hl,hK,hS,hf,hd,hcell⟩
  ·simp at hi
  have hil:i<rows.length:=(List.getElem?_eq_some_iff.1 hi).1
  have hjl:j<sz:=by rw [←hl row (mem_get hi)];exact (List.getElem?_eq_some_iff.1 hj).1
  exact fin b o _ _ cs e fz hb hv (Nat.lt_of_lt_of_le (Q0 hil hc hjl) hs) (hl row (mem_get hi)) fun hn=>(hcell i j row a hi hj).leafVR w h g hn
end Go.Abs
namespace Go.Abs
def zv:AV→Option Value
 | .bool b=>some (.bool b)
 | .int k n=>some (.int k n)
 | .str s=>some (.string s)
 | .nilp=>some (.pointer none)
 | .nilf=>some .nilFunc
 | .lst _ rows=>match rows with | []=>some (.slice none 0 0) | _=>none
 | _=>none
def ShOK (x:Shape) (d:TypeDesc):Prop:=match x with
 | .bool=>d=.bool
 | .int k=>d=.int k
 | .str=>d=.string
 | .ptr e=>d=.pointer e
 | .slice e=>d=.slice e
 | .func=>∃ a b c,d=.func a b c
 | .struct fs=>∃ a:Array Field,d=.struct a∧a.toList.map (fun f=>(f.offset,f.type))=fs
 | .other=>False
structure TyOK (P:Program) (t:TypeId) (x:TInfo):Prop where
 under:∃ d,P.underlying t=some d∧ShOK x.shape d
 info:∃ i z,P.info? t=some i∧i.size=x.size∧i.bytes=x.bytes∧i.zero=some z∧z.cells.toList.map some=x.zero.map zv
 zlen:x.zero.length=x.size
 one:(∀ fs,x.shape≠.struct fs)→x.size=1
 flds:∀ fs,x.shape=.struct fs→∀ p∈fs,(P.info? p.2).isSome=true
 pos:0<x.size
def Z2 (P:Program) (l:List (TypeId×TInfo)):Prop:=∀ y∈l,TyOK P y.1 y.2
theorem Y1 {l:List (TypeId×TInfo)} {t:TypeId} {k:TInfo→R} {r:Res} (h:tyK l t k=some r):∃ x,(t,x)∈l∧k x=some r:=by
 induction l with
 | nil=>simp [tyK] at h
 | cons a l ih =>
   obtain ⟨t',x⟩:=a
   simp only [tyK] at h
   split at h
   ·rename_i e
    subst e
    exact ⟨x,by simp,h⟩
   ·obtain ⟨y,hy,hk⟩:=ih h
    exact ⟨y,by simp [hy],hk⟩
theorem VRs.length {w:World} {h:Heap} {g:Gh}:∀ {vs:List Value} {l:List AV},VRs w h g vs l→vs.length=l.length
 | _,_,.nil=>rfl
 | _,_,.cons _ h2=>by simp [VRs.length h2]
theorem VRs.get {w:World} {h:Heap} {g:Gh}:∀ {vs:List Value} {l:List AV} {n:Nat} {a:AV},VRs w h g vs l→l[n]?=some a→∃ v,vs[n]?=some v∧VR w h g v a
 | _,_,0,_,.cons h1 _,ha=>by simp at ha;subst ha;exact ⟨_,by simp,h1⟩
 | _,_,n+1,_,.cons _ h2,ha=>by
   obtain ⟨v,h3,h4⟩:=VRs.get (n:=n) h2 (by simpa using ha)
   exact ⟨v,by simpa using h3,h4⟩
 | _,_,0,_,.nil,ha=>by simp at ha
 | _,_,n+1,_,.nil,ha=>by simp at ha
theorem VRs.set {w:World} {h:Heap} {g:Gh} {v:Value} {a:AV} (hv:VR w h g v a):∀ {vs:List Value} {l:List AV} {n:Nat},VRs w h g vs l→VRs w h g (vs.set n v) (l.set n a)
 | _,_,0,.cons _ h2=>.cons hv h2
 | _,_,n+1,.cons h1 h2=>.cons h1 (VRs.set hv (n:=n) h2)
 | _,_,0,.nil=>.nil
 | _,_,n+1,.nil=>.nil
theorem VRs.append {w:World} {h:Heap} {g:Gh}:∀ {vs us:List Value} {l m:List AV},VRs w h g vs l→VRs w h g us m→VRs w h g (vs++us) (l++m)
 | _,_,_,_,.nil,h2=>h2
 | _,_,_,_,.cons h1 h3,h2=>.cons h1 (VRs.append h3 h2)
def LC (r:Nat) (p:Path) (i j:Nat) (a a':AV):Prop:=(∃ sz rows,a=.lst sz rows∧a'=.ref r (p++[(i,j)]))∨((∀ sz rows,a≠.lst sz rows)∧a'=a)
theorem Xeb {r:Nat} {p:Path} {i j:Nat} {a:AV} {k:AV→R} {res:Res} (h:Qs r p i j a k=some res):∃ a',LC r p i j a a'∧k a'=some res:=by
 cases a <;> simp only [Qs] at h <;> first
  | exact ⟨_,.inl ⟨_,_,rfl,rfl⟩,Xyf h⟩
  | exact ⟨_,.inr ⟨fun _ _ e=>by simp at e,rfl⟩,h⟩
  | simp at h
theorem Xod {r:Nat} {p:Path} {i:Nat} {n j:Nat} {row:List AV} {k:List AV→R} {res:Res} (h:Xe0 r p i n j row k=some res) :
 ∃ vs:List AV,vs.length=n∧(∀ q,q<n→∃ a a',row[q]?=some a∧vs[q]?=some a'∧LC r p i (j+q) a a')∧k vs=some res:=by
 induction n generalizing j row k with
 | zero=>exact ⟨[],rfl,fun q hq=>by omega,h⟩
 | succ n ih =>
   cases row with
   | nil=>simp [Xe0] at h
   | cons a row =>
     simp only [Xe0] at h
     obtain ⟨a',h1,h2⟩:=Xeb h
     obtain ⟨vs,h3,h4,h5⟩:=ih h2
     refine ⟨a'::vs,by simp [h3],fun q hq=>?_,h5⟩
     cases q with
     | zero=>exact ⟨a,a',rfl,rfl,by simpa using h1⟩
     | succ q =>
       obtain ⟨b,b',k1,k2,k3⟩:=h4 q (by omega)
       exact ⟨b,b',by simpa using k1,by simpa using k2,by rwa [show j+(q+1)=j+1+q by omega]⟩
theorem Addr.add_eq (b o n:Nat):(⟨b,o,none⟩:Addr).add n=⟨b,o+n,none⟩:=by
 unfold Addr.add
 split
 ·subst_vars;rfl
 ·rfl
theorem Rel.loadC {w:World} {wr:Wrs} {h:Heap} {g:Gh} (R:Rel w wr h g) {r:Nat} {p:Path} {b o n c:Nat} {sz:Nat} {rows:Rows} {i j:Nat} {row:List AV} {a a':AV}
 (hp:Yq w h g r p=some (.slice (some ⟨b,o,none⟩) n c,sz,rows)) (hi:rows[i]?=some row) (hj:row[j]?=some a) (hc:LC r p i j a a') :
 ∃ u,w.cell? ⟨b,o+i*sz+j,none⟩=some u∧VR w h g u a':=by
 obtain ⟨b',o',n',c',u,hv,hu,_,hcase⟩:=R.cell hp hi hj
 simp only [Value.slice.injEq,Option.some.injEq,Addr.mk.injEq] at hv
 obtain ⟨⟨rfl,rfl,_⟩,rfl,rfl⟩:=hv
 refine ⟨u,hu,?_⟩
 rcases hc with ⟨s,t,rfl,rfl⟩ | ⟨hn,rfl⟩
 ·rcases hcase with ⟨_,_,_,hw⟩ | ⟨hn,_⟩
  ·exact .ref hw
  ·exact absurd rfl (hn _ _)
 ·rcases hcase with ⟨_,_,rfl,_⟩ | ⟨_,hv⟩
  ·exact absurd rfl (hn _ _)
  ·exact hv
theorem Xfb {P:Program} {cfg:Cfg} (hT:Z2 P cfg.ty) {w:World} {wr:Wrs} {h:Heap} {g:Gh} (HR:Rel w wr h g) {t:TypeId} {v:Value} {a:AV} {k:AV→R} {res:Res}
 (hh:U4 cfg t h a k=some res) (hv:VR w h g v a):∃ u av,(Instr.loadAt t v).run P w=.ok u w∧VR w h g u av∧k av=some res:=by
 cases hv <;> simp only [U4] at hh <;> try (simp at hh;done)
 rename_i r p i j sz rows b o n c hw
 obtain ⟨x,sz',rows',hres,hh⟩:=Ul hh
 obtain ⟨row,h1,hh⟩:=Ur hh
 obtain ⟨hjl,hh⟩:=Xga hh
 obtain ⟨ti,hti,hh⟩:=Y1 hh
 have hrows:rows'=rows:=by
  obtain ⟨x',hx',hr',_⟩:=Yr hw
  simp only [Abs.res,hx',hr',Option.some.injEq,Prod.mk.injEq] at hres
  exact hres.2.2.symm
 subst hrows
 obtain ⟨⟨d,hd,hsh⟩,⟨ii,z,hi1,hi2,_,_,_⟩,_,hone⟩:=hT _ hti
 split at hh
 ·rename_i fs hfs
  obtain ⟨vs,hlen,hvs,hk⟩:=Xod hh
  rw [hfs] at hsh
  obtain ⟨fa,rfl,_⟩:=hsh
  have cells:∀ q,q<ti.size→∃ u a',vs[q]?=some a'∧w.cell? ⟨b,o+i*sz+j+q,none⟩=some u∧VR w h g u a':=by
   intro q hq
   obtain ⟨a0,a',k1,k2,k3⟩:=hvs q hq
   rw [List.getElem?_drop] at k1
   obtain ⟨u,k4,k5⟩:=HR.loadC hw h1 k1 k3
   exact ⟨u,a',k2,by rwa [Nat.add_assoc],k5⟩
  have mk:∀ m,m≤ti.size→∃ us:List Value,us.length=m∧(∀ q u,us[q]?=some u→w.cell? ⟨b,o+i*sz+j+q,none⟩=some u)∧VRs w h g us (vs.take m):=by
   intro m
   induction m with
   | zero=>exact fun _=>⟨[],rfl,fun q u hu=>by simp at hu,by simpa using VRs.nil⟩
   | succ m ih =>
     intro hm
     obtain ⟨us,e1,e2,e3⟩:=ih (by omega)
     obtain ⟨u,a',k2,k4,k5⟩:=cells m (by omega)
     refine ⟨us++[u],by simp [e1],fun q u' hu'=>?_,?_⟩
     ·rw [List.getElem?_append] at hu'
      split at hu'
      ·exact e2 q u' hu'
      ·rename_i hq
       have:q=m:=by
        have:=(List.getElem?_eq_some_iff.1 hu').1
        simp at this
        omega
       subst this
       simp [e1] at hu'
       subst hu'
       exact k4
     ·have:vs.take (m+1)=vs.take m++[a']:=by
       rw [List.take_succ_eq_append_getElem (by omega)]
       congr 1
       have:=(List.getElem?_eq_some_iff.1 k2)
       obtain ⟨hm',e⟩:=this
       rw [e]
      rw [this]
      exact e3.append (.cons k5 .nil)
  obtain ⟨us,e1,e2,e3⟩:=mk ti.size (Nat.le_refl _)
  rw [←hlen,List.take_length] at e3
  have hload:=run_loadCells_list (P:=P) w ⟨b,o+i*sz+j,none⟩ us (fun q u hu=>by rw [Addr.add_eq];exact e2 q u hu)
  refine ⟨.agg us.toArray,.agg vs,?_,.agg e3,hk⟩
  simp [Instr.loadAt,Instr.sureAddr,loadVar,isAgg,run_underlying hd,sizeOf,typeInfo,hi1,hi2,←e1,hload]
 ·rename_i hns
  split at hh
  ·rename_i a0 l hd0
   obtain ⟨a',hc,hk⟩:=Xeb hh
   have k1:row[j]?=some a0:=by
    have:=congrArg (·[0]?) hd0
    simpa [List.getElem?_drop] using this
   obtain ⟨u,k4,k5⟩:=HR.loadC hw h1 k1 hc
   refine ⟨u,a',?_,k5,hk⟩
   have hagg:(isAgg t).run P w=.ok false w:=by
    simp only [isAgg,Sem.run_bind,run_underlying hd,Result.andThen_ok]
    cases hs:ti.shape <;> simp only [hs,ShOK] at hsh
    ·subst hsh;rfl
    ·subst hsh;rfl
    ·subst hsh;rfl
    ·subst hsh;rfl
    ·subst hsh;rfl
    ·obtain ⟨_,_,_,rfl⟩:=hsh;rfl
    ·exact absurd hs (hns _)
   simp [Instr.loadAt,Instr.sureAddr,loadVar,hagg,k4]
  ·simp at hh
end Go.Abs
namespace Go.Abs
theorem Xg7 {w:World} {wr:Wrs} {ro:Bool} {b q:Nat} {ad:Addr} {u:Value} (h:Kr w wr ro b q):Kr (w.setCell ad u) wr ro b q:=by
 cases ro
 ·exact ⟨h.1,by rw [World.frozen?_setCell];exact h.2⟩
 ·exact h
theorem TR.setK {w:World} {wr:Wrs} {own ro:Bool} {S:BS} {v:Value} {a:AV} {ad:Addr} {u:Value} (h:TR (w.setCell ad u) own (Kr w wr ro) S v a):TR (w.setCell ad u) own (Kr (w.setCell ad u) wr ro) S v a :=
 h.mono (fun _ h=>h) (fun _ _ _ hk=>Xg7 hk)
def upd (h:Heap) (r:Nat) (x:Root) (p:Path) (new:Rows):Heap:=put h r (some {x with rows:=updR p x.rows new})
theorem Xhx {h:Heap} {r:Nat} {p:Path} {f:Rows→(Rows→R)→R} {k:Heap→R} {res:Res} (hh:modH h r p f k=some res) :
 ∃ x sz rows,h[r]?.join=some x∧resR p x.sz x.rows=some (sz,rows)∧f rows (fun new=>k (upd h r x p new))=some res:=by
 obtain ⟨x,hx,hh⟩:=Ug hh
 obtain ⟨ro,virt,box,sz,rows⟩:=x
 simp only [X01] at hh
 obtain ⟨sz',rows',h1,h2⟩:=Xyh hh
 refine ⟨⟨ro,virt,box,sz,rows⟩,if p=[] then sz else sz',rows',by simp [hx],?_,?_⟩
 ·cases p with
  | nil=>simp only [resR,Option.some.injEq,Prod.mk.injEq] at h1 ⊢;exact ⟨by simp,h1.2⟩
  | cons a p=>simpa [resR] using h1
 ·have e:∀ (l:Heap) (n:Nat) (v:Option Root) (k:Heap→R),setH l n v k=k (put l n v):=by
   intro l n v k
   induction n generalizing l k with
   | zero=>cases l <;> rfl
   | succ n ih=>cases l with
     | nil=>simp only [setH,put,ih]
     | cons a l=>simp only [setH,put,ih]
  simp only [e] at h2
  exact h2
theorem Xp1 {cs:Array Value} {q q':Nat} {u:Value} (h:q'≠q):(cs.setIfInBounds q u).getD q' default=cs.getD q' default:=by
 simp only [Array.getD_eq_getD_getElem?]
 rw [Array.getElem?_setIfInBounds_ne (Ne.symm h)]
theorem Xec {cs:Array Value} {q:Nat} {u:Value} (h:q<cs.size):(cs.setIfInBounds q u).getD q default=u:=by
 simp [Array.getD_eq_getD_getElem?,h]
theorem Xjh {rows:Rows} {i j:Nat} {row:List AV} {a:AV} (hi:rows[i]?=some row) (hj:j<row.length) {i' j':Nat} {row':List AV} {a':AV}
 (hr:(rows.set i (row.set j a))[i']?=some row') (ha:row'[j']?=some a'):(i'=i∧j'=j∧a'=a)∨(¬(i'=i∧j'=j)∧∃ row0,rows[i']?=some row0∧row0[j']?=some a'):=by
 have hil:i<rows.length:=(List.getElem?_eq_some_iff.1 hi).1
 by_cases e1:i'=i∧j'=j
 ·obtain ⟨rfl,rfl⟩:=e1
  rw [List.getElem?_set_self hil] at hr
  cases hr
  rw [List.getElem?_set_self hj] at ha
  cases ha
  exact .inl ⟨rfl,rfl,rfl⟩
 ·refine .inr ⟨e1,?_⟩
  by_cases e2:i=i'
  ·subst e2
   rw [List.getElem?_set_self hil] at hr
   cases hr
   have e3:j≠j':=fun e3=>e1 ⟨rfl,e3.symm⟩
   rw [List.getElem?_set_ne e3] at ha
   exact ⟨row,hi,ha⟩
  ·rw [List.getElem?_set_ne e2] at hr
   exact ⟨row',hr,ha⟩
theorem Xed {rows:Rows} {i j sz:Nat} {row:List AV} {a:AV} (hi:rows[i]?=some row) (hl:∀ r∈rows,r.length=sz):∀ r∈rows.set i (row.set j a),r.length=sz:=by
 intro r hr
 rcases List.mem_or_eq_of_mem_set hr with hr | rfl
 ·exact hl r hr
 ·rw [List.length_set];exact hl row (mem_get hi)
structure Put1 (w:World) (wr:Wrs) (h:Heap) (g:Gh) (P:Nat→Path→Prop) (r:Nat) (x:Root) (p:Path) (b o n c sz:Nat) (rows:Rows) (i j:Nat) (row:List AV) (S2:BS) (u:Value) (a:AV):Prop where
 rel:Rel w wr h g
 hx:h[r]?.join=some x
 ro:x.ro=false
 hp:Yq w h g r p=some (.slice (some ⟨b,o,none⟩) n c,sz,rows)
 hi:rows[i]?=some row
 hj:j<row.length
 thru:∀ q,P r q→(∃ y,Yq w h g r q=some y)→¬(p++[(i,j)] <+: q)
 refs:Xcd P h
 tree:isX a=false→TR w true (Kr w wr false) S2 u a
 name:isX a=true→x.box=true∧p=[]∧x.virt=false∧VR w h g u a∧Refs P a
 apart:∀ r' x' k,h[r']?.join=some x'→S2 k→¬g.F r' k
 low:∀ k,S2 k→k<w.heap.size
section
variable {w:World} {wr:Wrs} {h:Heap} {g:Gh} {P:Nat→Path→Prop} {r:Nat} {x:Root} {p:Path} {b o n c sz:Nat} {rows:Rows} {i j:Nat} {row:List AV} {S2:BS} {u:Value} {a:AV}
def gPut (g:Gh) (r:Nat) (S2:BS):Gh:=⟨g.ρ,g.G,fun r'=>if r'=r then (fun k=>g.F r k∨S2 k) else g.F r'⟩
theorem Put1.main (H:Put1 w wr h g P r x p b o n c sz rows i j row S2 u a) :
 g.F r b∧(w.cell? ⟨b,o+i*sz+j,none⟩).isSome∧w.frozen? ⟨b,o+i*sz+j,none⟩=false∧wr b (o+i*sz+j) ∧
 (Vf P w h g (w.setCell ⟨b,o+i*sz+j,none⟩ u) (upd h r x p (rows.set i (row.set j a))) (gPut g r S2) →
  Zu (w.setCell ⟨b,o+i*sz+j,none⟩ u) wr (upd h r x p (rows.set i (row.set j a))) (gPut g r S2) r {x with rows:=updR p x.rows (rows.set i (row.set j a))}) ∧
 ∀ q v s t,Yq w h g r q=some (v,s,t)→¬(p++[(i,j)] <+: q)→∃ t',Yq (w.setCell ⟨b,o+i*sz+j,none⟩ u) (upd h r x p (rows.set i (row.set j a))) (gPut g r S2) r q=some (v,s,t')∧t'.length=t.length:=by
 have hR:=H.rel.root r x H.hx
 have hupd:(upd h r x p (rows.set i (row.set j a)))[r]?.join=some {x with rows:=updR p x.rows (rows.set i (row.set j a))}:=by simp [upd,Wv]
 have hFr:(gPut g r S2).F r=fun k=>g.F r k∨S2 k:=by simp [gPut]
 obtain ⟨x0,hx0,hres,hvp⟩:=Yr H.hp
 obtain ⟨b1,o1,n1,c1,u1,hv1,hu1,hrl,hcase0⟩:=H.rel.cell H.hp H.hi (List.getElem?_eq_getElem H.hj)
 simp only [Value.slice.injEq,Option.some.injEq,Addr.mk.injEq] at hv1
 obtain ⟨⟨rfl,rfl,_⟩,rfl,rfl⟩:=hv1
 unfold Zu at hR
 cases hvt:x.virt with
 | false =>
   simp only [hvt] at hR
   have hw0:∀ q,Yq w h g r q=walk w (g.ρ r) x.sz x.rows q:=fun q=>by simp [Yq,H.hx,hvt]
   have hw1:∀ q,Yq (w.setCell ⟨b,o+i*sz+j,none⟩ u) (upd h r x p (rows.set i (row.set j a))) (gPut g r S2) r q =
    walk (w.setCell ⟨b,o+i*sz+j,none⟩ u) (g.ρ r) x.sz (updR p x.rows (rows.set i (row.set j a))) q:=fun q=>by simp [Yq,hupd,hvt,gPut]
   have hp':=H.hp
   rw [hw0] at hp'
   cases hbx:x.box with
   | false =>
     simp only [hbx,H.ro,Bool.not_false] at hR
     have hnx:isX a=false:=by
      cases hx:isX a with
      | false=>rfl
      | true=>have:=(H.name hx).1;rw [hbx] at this;cases this
     obtain ⟨k1,k2,k3⟩:=hR.set hp' H.hi H.hj (H.tree hnx) (fun k hk=>H.apart r x k H.hx hk)
     obtain ⟨v',S',e1,e2,e3⟩:=hR.get (Xe9 hp')
     rw [hp'] at e1
     simp only [Option.some.injEq,Prod.mk.injEq,and_true] at e1
     subst e1
     have hil:i<rows.length:=(List.getElem?_eq_some_iff.1 H.hi).1
     have hK:Kr w wr false b (o+i*sz+j):=by
      rcases e2.lst_inv with ⟨rfl,_⟩ | ⟨b',o',c',cs,e,fz,f,hv,hb,hs,hc,hl,hK,_⟩
      ·simp at hil
      ·simp only [Value.slice.injEq,Option.some.injEq,Addr.mk.injEq] at hv
       obtain ⟨⟨rfl,rfl,_⟩,rfl,rfl⟩:=hv
       exact hK.2 _ (by have:=Nat.zero_le (i*sz);omega) (Q0 hil hc (by rw [←hrl];exact H.hj))
     refine ⟨k1,by simp [hu1],hK.2,hK.1,fun _=>?_,fun q v s t hq hn=>?_⟩
     ·unfold Zu
      simp only [hvt,hbx,H.ro,Bool.not_false,hFr]
      exact k2.setK
     ·rw [hw0] at hq
      rw [hw1]
      exact k3 q v s t hq hn
   | true =>
     simp only [hbx] at hR
     obtain ⟨b',o',cs,e0,fz,f,h1,h2,h3,h4,h5,h6,h7,h8,h9⟩:=hR
     obtain ⟨d1,d2⟩:=h8 H.ro
     rw [H.ro] at h5 h9
     cases p with
     | nil =>
       rw [h1] at hp'
       simp only [walk,Option.some.injEq,Prod.mk.injEq,Value.slice.injEq,Addr.mk.injEq,and_true] at hp'
       obtain ⟨⟨⟨rfl,rfl⟩,rfl,rfl⟩,rfl,rfl⟩:=hp'
       have hil:i<x.rows.length:=(List.getElem?_eq_some_iff.1 H.hi).1
       have hjs:j<x.sz:=by rw [←hrl];exact H.hj
       have hq:o'+i*x.sz+j<cs.size:=Nat.lt_of_lt_of_le (Q0 hil (Nat.le_refl _) hjs) h3
       have hK:=h5 (o'+i*x.sz+j) (by have:=Nat.zero_le (i*x.sz);omega) (Q0 hil (Nat.le_refl _) hjs)
       have hother:∀ k,k≠b'→(w.setCell ⟨b',o'+i*x.sz+j,none⟩ u).heap[k]?=w.heap[k]?:=fun k hk=>Z5 hk
       have hne:∀ i' j',j'<x.sz→¬(i'=i∧j'=j)→o'+i'*x.sz+j'≠o'+i*x.sz+j:=fun i' j' hj' hn e=>hn (Xpz hj' hjs (by omega))
       refine ⟨h6,by simp [hu1],hK.2,hK.1,fun keeps=>?_,fun q v s t hq' hn=>?_⟩
       ·unfold Zu
        simp only [hvt,hbx]
        refine ⟨b',o',cs.setIfInBounds (o'+i*x.sz+j) u,e0,fz,fun i' j'=>if i'=i∧j'=j then S2 else f i' j',?_,Ux h2,?_,?_,?_,?_,?_,?_,?_⟩
        ·simp only [gPut,updR,List.length_set];exact h1
        ·simp only [updR,List.length_set,Array.size_setIfInBounds];exact h3
        ·simp only [updR];exact Xed H.hi h4
        ·intro q q1 q2
         simp only [updR,List.length_set] at q2
         rw [H.ro]
         exact Xg7 (h5 q q1 q2)
        ·rw [hFr];exact .inl h6
        ·intro i' j' k hk
         rw [hFr]
         split at hk
         ·exact .inr hk
         ·exact .inl (h7 i' j' k hk)
        ·intro _
         refine ⟨fun i' j' hk=>?_,fun i1 j1 i2 j2 k k1 k2=>?_⟩
         ·dsimp only at hk
          split at hk
          ·exact H.apart r x _ H.hx hk h6
          ·exact d1 i' j' hk
         ·dsimp only at k1 k2
          split at k1 <;> split at k2
          ·rename_i a1 a2;exact ⟨a1.1.trans a2.1.symm,a1.2.trans a2.2.symm⟩
          ·exact absurd (h7 _ _ _ k2) (H.apart r x _ H.hx k1)
          ·exact absurd (h7 _ _ _ k1) (H.apart r x _ H.hx k2)
          ·exact d2 _ _ _ _ k k1 k2
        ·intro i' j' row' a' hr ha
         simp only [updR] at hr
         simp only [H.ro]
         rcases Xjh H.hi H.hj hr ha with ⟨rfl,rfl,rfl⟩ | ⟨hn,row0,hr0,ha0⟩
         ·rw [Xec hq]
          simp only [and_self,if_true]
          unfold Ut
          cases hx:isX a' with
          | true=>exact VR.keep keeps (H.name hx).2.2.2.1 (H.name hx).2.2.2.2
          | false =>
            simp only [Bool.not_false]
            exact ((H.tree hx).world (fun k hk=>hother k (fun e=>H.apart r x _ H.hx hk (e▸h6)))).setK
         ·have hj':j'<x.sz:=by rw [←h4 row0 (mem_get hr0)];exact (List.getElem?_eq_some_iff.1 ha0).1
          rw [Xp1 (hne i' j' hj' hn),if_neg hn]
          have hc:=h9 i' j' row0 a' hr0 ha0
          unfold Ut at hc ⊢
          cases hx:isX a' with
          | true =>
            simp only [hx] at hc
            exact VR.keep keeps hc (H.refs r x row0 a' H.hx hbx (mem_get hr0) (mem_get ha0) hx)
          | false =>
            simp only [hx] at hc
            exact (hc.world (fun k hk=>hother k (fun e=>d1 i' j' (e▸hk)))).setK
       ·rw [hw0] at hq'
        rw [hw1]
        rw [h1] at hq' ⊢
        cases q with
        | nil =>
          simp only [walk,Option.some.injEq,Prod.mk.injEq] at hq'
          obtain ⟨rfl,rfl,rfl⟩:=hq'
          exact ⟨_,rfl,by simp [updR]⟩
        | cons q1 q =>
          obtain ⟨i1,j1⟩:=q1
          have e1:¬(i1=i∧j1=j):=fun e=>hn (by obtain ⟨rfl,rfl⟩:=e;simp)
          rw [Qa h2] at hq'
          split at hq'
          ·cases hq'
          ·rename_i row1 r1
           split at hq'
           ·rename_i sz1 rows1 r2
            split at hq'
            ·rename_i v1 r3
             have hj1:j1<x.sz:=by rw [←h4 row1 (mem_get r1)];exact (List.getElem?_eq_some_iff.1 r2).1
             have hchild:=h9 i1 j1 row1 _ r1 r2
             simp only [Ut,isX,Xa5 r3] at hchild
             have hnew:∃ row2,(x.rows.set i (row.set j a))[i1]?=some row2∧row2[j1]?=some (.lst sz1 rows1):=by
              by_cases e3:i=i1
              ·subst e3
               have e4:j≠j1:=fun e4=>e1 ⟨rfl,e4.symm⟩
               have:=H.hi
               rw [this] at r1
               cases r1
               exact ⟨_,List.getElem?_set_self hil,by rw [List.getElem?_set_ne e4];exact r2⟩
              ·exact ⟨row1,by rw [List.getElem?_set_ne e3];exact r1,r2⟩
             obtain ⟨row2,h10,h11⟩:=hnew
             refine ⟨t,?_,rfl⟩
             rw [Qa (Ux h2)]
             simp only [updR,h10,h11]
             rw [Array.getElem?_setIfInBounds_ne (Ne.symm (hne i1 j1 hj1 e1)),r3]
             simp only
             rw [Us hchild (fun k hk=>hother k (fun e=>d1 i1 j1 (e▸hk)))]
             exact hq'
            ·cases hq'
           ·cases hq'
     | cons q0 p =>
       obtain ⟨i0,j0⟩:=q0
       have hnx:isX a=false:=by
        cases hx:isX a with
        | false=>rfl
        | true=>have:=(H.name hx).2.1;cases this
       rw [h1,Qa h2] at hp'
       split at hp'
       ·cases hp'
       ·rename_i row1 r1
        split at hp'
        ·rename_i sz1 rows1 r2
         split at hp'
         ·rename_i v1 r3
          have hil:i0<x.rows.length:=(List.getElem?_eq_some_iff.1 r1).1
          have hjl:j0<row1.length:=(List.getElem?_eq_some_iff.1 r2).1
          have hchild:=h9 i0 j0 row1 _ r1 r2
          simp only [Ut,isX,Xa5 r3,Bool.not_false] at hchild
          obtain ⟨g1,g2,g3⟩:=hchild.set hp' H.hi H.hj (H.tree hnx) (fun k hk hf'=>H.apart r x k H.hx hk (h7 _ _ _ hf'))
          have hbb:b'≠b:=fun e=>d1 i0 j0 (e▸g1)
          have hother:∀ k,k≠b→(w.setCell ⟨b,o+i*sz+j,none⟩ u).heap[k]?=w.heap[k]?:=fun k hk=>Z5 hk
          have hb2:(w.setCell ⟨b,o+i*sz+j,none⟩ u).heap[b']?=some (.cells cs e0 fz):=(hother b' hbb).trans h2
          obtain ⟨v',S',e1,e2,e3⟩:=hchild.get (Xe9 hp')
          rw [hp'] at e1
          simp only [Option.some.injEq,Prod.mk.injEq,and_true] at e1
          subst e1
          have hil2:i<rows.length:=(List.getElem?_eq_some_iff.1 H.hi).1
          have hK:Kr w wr false b (o+i*sz+j):=by
           rcases e2.lst_inv with ⟨rfl,_⟩ | ⟨b'',o'',c',cs',e,fz',f',hv,hb,hs,hc,hl,hK,_⟩
           ·simp at hil2
           ·simp only [Value.slice.injEq,Option.some.injEq,Addr.mk.injEq] at hv
            obtain ⟨⟨rfl,rfl,_⟩,rfl,rfl⟩:=hv
            exact hK.2 _ (by have:=Nat.zero_le (i*sz);omega) (Q0 hil2 hc (by rw [←hrl];exact H.hj))
          have eqU:updR ((i0,j0)::p) x.rows (rows.set i (row.set j a))=x.rows.set i0 (row1.set j0 (.lst sz1 (updR p rows1 (rows.set i (row.set j a))))):=by simp only [updR,r1,r2]
          refine ⟨h7 _ _ _ g1,by simp [hu1],hK.2,hK.1,fun keeps=>?_,fun q v s t hq' hn=>?_⟩
          ·unfold Zu
           simp only [hvt,hbx]
           refine ⟨b',o',cs,e0,fz,fun i' j'=>if i'=i0∧j'=j0 then (fun k=>f i0 j0 k∨S2 k) else f i' j',?_,hb2,?_,?_,?_,?_,?_,?_,?_⟩
           ·simp only [gPut,eqU,List.length_set];exact h1
           ·simp only [eqU,List.length_set];exact h3
           ·simp only [eqU];exact Xed r1 h4
           ·intro q q1 q2
            simp only [eqU,List.length_set] at q2
            rw [H.ro]
            exact Xg7 (h5 q q1 q2)
           ·rw [hFr];exact .inl h6
           ·intro i' j' k hk
            rw [hFr]
            split at hk
            ·rcases hk with hk | hk
             ·exact .inl (h7 _ _ _ hk)
             ·exact .inr hk
            ·exact .inl (h7 i' j' k hk)
           ·intro _
            refine ⟨fun i' j' hk=>?_,fun i1 j1 i2 j2 k k1 k2=>?_⟩
            ·dsimp only at hk
             split at hk
             ·rcases hk with hk | hk
              ·exact d1 _ _ hk
              ·exact H.apart r x _ H.hx hk h6
             ·exact d1 i' j' hk
            ·dsimp only at k1 k2
             split at k1 <;> split at k2
             ·rename_i a1 a2;exact ⟨a1.1.trans a2.1.symm,a1.2.trans a2.2.symm⟩
             ·rename_i a1 a2
              rcases k1 with k1 | k1
              ·have:=d2 _ _ _ _ k k1 k2;exact absurd ⟨this.1.symm,this.2.symm⟩ a2
              ·exact absurd (h7 _ _ _ k2) (H.apart r x _ H.hx k1)
             ·rename_i a1 a2
              rcases k2 with k2 | k2
              ·exact absurd (d2 _ _ _ _ k k1 k2) a1
              ·exact absurd (h7 _ _ _ k1) (H.apart r x _ H.hx k2)
             ·exact d2 _ _ _ _ k k1 k2
           ·intro i' j' row' a' hr ha
            simp only [eqU] at hr
            simp only [H.ro]
            rcases Xjh r1 hjl hr ha with ⟨rfl,rfl,rfl⟩ | ⟨hn,row0,hr0,ha0⟩
            ·simp only [and_self,if_true,Ut,isX,Xa5 r3,Bool.not_false]
             exact g2.setK
            ·rw [if_neg hn]
             have hc:=h9 i' j' row0 a' hr0 ha0
             unfold Ut at hc ⊢
             cases hx:isX a' with
             | true =>
               simp only [hx] at hc
               exact VR.keep keeps hc (H.refs r x row0 a' H.hx hbx (mem_get hr0) (mem_get ha0) hx)
             | false =>
               simp only [hx] at hc
               exact (hc.world (fun k hk=>hother k (fun e=>hn (d2 _ _ _ _ b (e▸hk) g1)))).setK
          ·rw [hw0] at hq'
           rw [hw1]
           rw [h1] at hq' ⊢
           cases q with
           | nil =>
             simp only [walk,Option.some.injEq,Prod.mk.injEq] at hq'
             obtain ⟨rfl,rfl,rfl⟩:=hq'
             exact ⟨_,rfl,by simp [eqU]⟩
           | cons q1 q =>
             obtain ⟨i1,j1⟩:=q1
             rw [Qa h2] at hq'
             rw [Qa hb2,eqU]
             by_cases e1:i1=i0∧j1=j0
             ·obtain ⟨rfl,rfl⟩:=e1
              simp only [r1,r2,r3] at hq'
              obtain ⟨t',k4,k5⟩:=g3 q v s t hq' (fun hh=>hn (by simpa using hh))
              refine ⟨t',?_,k5⟩
              simp only [List.getElem?_set_self hil,List.getElem?_set_self hjl,r3]
              exact k4
             ·split at hq'
              ·cases hq'
              ·rename_i row3 s1
               split at hq'
               ·rename_i sz3 rows3 s2
                split at hq'
                ·rename_i v3 s3
                 have hchild3:=h9 i1 j1 row3 _ s1 s2
                 simp only [Ut,isX,Xa5 s3] at hchild3
                 have hnew:∃ row2,(x.rows.set i0 (row1.set j0 (.lst sz1 (updR p rows1 (rows.set i (row.set j a))))))[i1]?=some row2∧row2[j1]?=some (.lst sz3 rows3):=by
                  by_cases e3:i0=i1
                  ·subst e3
                   have e4:j0≠j1:=fun e4=>e1 ⟨rfl,e4.symm⟩
                   rw [r1] at s1
                   cases s1
                   exact ⟨_,List.getElem?_set_self hil,by rw [List.getElem?_set_ne e4];exact s2⟩
                  ·exact ⟨row3,by rw [List.getElem?_set_ne e3];exact s1,s2⟩
                 obtain ⟨row2,h10,h11⟩:=hnew
                 refine ⟨t,?_,rfl⟩
                 simp only [h10,h11,s3]
                 rw [Us hchild3 (fun k hk=>hother k (fun e=>e1 (d2 _ _ _ _ b (e▸hk) g1)))]
                 exact hq'
                ·cases hq'
               ·cases hq'
         ·cases hp'
        ·cases hp'
 | true =>
   simp only [hvt] at hR
   obtain ⟨vrow,f,h1,h2,h3,h4,h5⟩:=hR
   have d2:=h4 H.ro
   rw [H.ro] at h5
   have hnx:isX a=false:=by
    cases hx:isX a with
    | false=>rfl
    | true=>have:=(H.name hx).2.2.1;rw [hvt] at this;cases this
   have hp':=H.hp
   unfold Yq at hp'
   simp only [H.hx,hvt] at hp'
   cases p with
   | nil=>simp at hp'
   | cons q0 p =>
     obtain ⟨i0,j0⟩:=q0
     dsimp only at hp'
     split at hp'
     ·cases hp'
     ·rename_i row1 r1
      split at hp'
      ·rename_i sz1 rows1 r2
       split at hp'
       ·rename_i r3
        rw [h1] at r1
        simp only [List.getElem?_cons_zero,Option.some.injEq] at r1
        subst r1
        have hjl:j0<vrow.length:=(List.getElem?_eq_some_iff.1 r2).1
        have hchild:=h5 j0 _ _ r2 r3
        simp only [Bool.not_false] at hchild
        obtain ⟨g1,g2,g3⟩:=hchild.set hp' H.hi H.hj (H.tree hnx) (fun k hk hf'=>H.apart r x k H.hx hk (h3 _ _ hf'))
        have hother:∀ k,k≠b→(w.setCell ⟨b,o+i*sz+j,none⟩ u).heap[k]?=w.heap[k]?:=fun k hk=>Z5 hk
        obtain ⟨v',S',e1,e2,e3⟩:=hchild.get (Xe9 hp')
        rw [hp'] at e1
        simp only [Option.some.injEq,Prod.mk.injEq,and_true] at e1
        subst e1
        have hil2:i<rows.length:=(List.getElem?_eq_some_iff.1 H.hi).1
        have hK:Kr w wr false b (o+i*sz+j):=by
         rcases e2.lst_inv with ⟨rfl,_⟩ | ⟨b'',o'',c',cs',e,fz',f',hv,hb,hs,hc,hl,hK,_⟩
         ·simp at hil2
         ·simp only [Value.slice.injEq,Option.some.injEq,Addr.mk.injEq] at hv
          obtain ⟨⟨rfl,rfl,_⟩,rfl,rfl⟩:=hv
          exact hK.2 _ (by have:=Nat.zero_le (i*sz);omega) (Q0 hil2 hc (by rw [←hrl];exact H.hj))
        have eqU:updR ((0,j0)::p) x.rows (rows.set i (row.set j a))=[vrow.set j0 (.lst sz1 (updR p rows1 (rows.set i (row.set j a))))]:=by simp only [updR,h1,List.getElem?_cons_zero,r2,List.set_cons_zero]
        refine ⟨h3 _ _ g1,by simp [hu1],hK.2,hK.1,fun keeps=>?_,fun q v s t hq' hn=>?_⟩
        ·unfold Zu
         simp only [hvt]
         refine ⟨vrow.set j0 (.lst sz1 (updR p rows1 (rows.set i (row.set j a)))),fun j'=>if j'=j0 then (fun k=>f j0 k∨S2 k) else f j',eqU,?_,?_,?_,?_⟩
         ·simp only [gPut,List.length_set];exact h2
         ·intro j' k hk
          rw [hFr]
          split at hk
          ·rcases hk with hk | hk
           ·exact .inl (h3 _ _ hk)
           ·exact .inr hk
          ·exact .inl (h3 _ _ hk)
         ·intro _ j1 j2 k k1 k2
          split at k1 <;> split at k2
          ·rename_i a1 a2;exact a1.trans a2.symm
          ·rename_i a1 a2
           rcases k1 with k1 | k1
           ·exact absurd (d2 _ _ _ k1 k2).symm a2
           ·exact absurd (h3 _ _ k2) (H.apart r x _ H.hx k1)
          ·rename_i a1 a2
           rcases k2 with k2 | k2
           ·exact absurd (d2 _ _ _ k1 k2) a1
           ·exact absurd (h3 _ _ k1) (H.apart r x _ H.hx k2)
          ·exact d2 _ _ _ k1 k2
         ·intro j' a' v ha hv
          simp only [gPut] at hv
          simp only [H.ro,Bool.not_false]
          by_cases e:j'=j0
          ·subst e
           rw [List.getElem?_set_self hjl] at ha
           cases ha
           rw [r3] at hv
           cases hv
           simp only [if_true]
           exact g2.setK
          ·rw [List.getElem?_set_ne (Ne.symm e)] at ha
           rw [if_neg e]
           have:=h5 j' a' v ha hv
           exact (this.world (fun k hk=>hother k (fun e'=>e (d2 _ _ _ (e'▸hk) g1)))).setK
        ·unfold Yq at hq' ⊢
         simp only [H.hx,hvt] at hq'
         simp only [hupd,hvt,gPut]
         cases q with
         | nil=>simp at hq'
         | cons q1 q =>
           obtain ⟨i1,j1⟩:=q1
           dsimp only at hq' ⊢
           rw [eqU]
           rw [h1] at hq'
           split at hq'
           ·cases hq'
           ·rename_i row3 s1
            split at hq'
            ·rename_i sz3 rows3 s2
             split at hq'
             ·rename_i s3
              simp only [List.getElem?_cons_zero,Option.some.injEq] at s1
              subst s1
              simp only [List.getElem?_cons_zero]
              by_cases e1:j1=j0
              ·subst e1
               rw [r2] at s2
               cases s2
               rw [r3] at s3
               cases s3
               obtain ⟨t',k4,k5⟩:=g3 q v s t hq' (fun hh=>hn (by simpa using hh))
               refine ⟨t',?_,k5⟩
               simp only [List.getElem?_set_self hjl,r3]
               exact k4
              ·have hchild3:=h5 j1 _ _ s2 s3
               refine ⟨t,?_,rfl⟩
               simp only [List.getElem?_set_ne (Ne.symm e1),s2,s3]
               rw [Us hchild3 (fun k hk=>hother k (fun e'=>e1 (d2 _ _ _ (e'▸hk) g1)))]
               exact hq'
             ·cases hq'
            ·cases hq'
       ·cases hp'
      ·cases hp'
end
end Go.Abs
namespace Go.Abs
inductive StkR (w:World) (h:Heap) (g:Gh):List (List Value)→List (List AV)→Prop
 | nil:StkR w h g [] []
 | cons {vs:List Value} {e:List AV} {ts:List (List Value)} {s:List (List AV)} (h1:VRs w h g vs e) (h2:StkR w h g ts s):StkR w h g (vs::ts) (e::s)
structure Good (w:World) (wr:Wrs) (ts:List (List Value)) (tm:List Value) (st:St) (g:Gh):Prop where
 rel:Rel w wr st.heap g
 env:VRs w st.heap g tm st.env
 stk:StkR w st.heap g ts st.stk
def Xdn (P:Nat→Path→Prop) (st:St):Prop:=Vo P st.env∧(∀ e∈st.stk,Vo P e)∧Xcd P st.heap
theorem Xdn.all {P:Nat→Path→Prop} (hP:∀ r p,P r p) (st:St):Xdn P st:=⟨Vo.all hP _,fun _ _=>Vo.all hP _,Xcd.all hP _⟩
theorem StkR.keep {P:Nat→Path→Prop} {w w':World} {h h':Heap} {g g':Gh} (H:Vf P w h g w' h' g'):∀ {ts:List (List Value)} {s:List (List AV)},StkR w h g ts s→(∀ e∈s,Vo P e)→StkR w' h' g' ts s
 | _,_,.nil,_=>.nil
 | _,_,.cons h1 h2,hr=>.cons (VRs.keep H h1 (hr _ (by simp))) (StkR.keep H h2 fun e he=>hr e (by simp [he]))
theorem Good.keep {P:Nat→Path→Prop} {w w':World} {wr:Wrs} {ts:List (List Value)} {tm:List Value} {st:St} {g g':Gh} {h':Heap} (G:Good w wr ts tm st g) (hs:Xdn P st)
 (H:Vf P w st.heap g w' h' g') (hr:Rel w' wr h' g'):Good w' wr ts tm ⟨st.env,st.stk,h'⟩ g' :=
 ⟨hr,VRs.keep H G.env hs.1,StkR.keep H G.stk hs.2.1⟩
theorem StkR.kill {w:World} {h:Heap} {g:Gh} (r:Nat) (c:List Nat):∀ {ts:List (List Value)} {s:List (List AV)},StkR w h g ts s→StkR w (kHp r c h) g ts (s.map (·.map (kV2 r c)))
 | _,_,.nil=>.nil
 | _,_,.cons h1 h2=>.cons (VRs.keep (Xb3 r c) (Xte h1) (Vo.all (fun _ _=>trivial) _)) (StkR.kill r c h2)
theorem Good.kill {w:World} {wr:Wrs} {ts:List (List Value)} {tm:List Value} {st:St} {g:Gh} (G:Good w wr ts tm st g) (r:Nat) (c:List Nat) :
 Good w wr ts tm (kSt r c st) g∧Xdn (Ww r c) (kSt r c st):=by
 refine ⟨⟨G.rel.kill r c,VRs.keep (Xb3 r c) (Xte G.env) (Vo.all (fun _ _=>trivial) _),StkR.kill r c G.stk⟩,Xrc _,fun e he=>?_,Xyr r c _⟩
 obtain ⟨e0,_,rfl⟩:=List.mem_map.1 he
 exact Xrc _
inductive Hand (w:World) (wr:Wrs) (h:Heap) (g:Gh) (ex:Bool):List Value→List AV→List BS→Prop
 | nil:Hand w wr h g ex [] [] []
 | cons {u:Value} {a:AV} {S:BS} {us:List Value} {l:List AV} {Ss:List BS} (h1:isX a=false→TR w true (Kr w wr false) S u a) (h2:isX a=true→ex=true∧VR w h g u a)
  (h3:∀ k,S k→k<w.heap.size∧∀ r x,h[r]?.join=some x→¬g.F r k) (h4:∀ S'∈Ss,∀ k,S k→¬S' k) (h5:Hand w wr h g ex us l Ss):Hand w wr h g ex (u::us) (a::l) (S::Ss)
theorem Xwr {r:Nat} {c:List Nat} {a:AV} {l:List AV} (h:past r c (a::l)=true):(isX a=true→Refs (Ww r c) a)∧past r c l=true:=by
 cases a <;> simp only [past] at h <;> simp only [isX] <;> first
  | exact ⟨fun h=>by simp at h,h⟩
  | (simp at h;done)
  | (split at h
     ·rename_i e
      subst e
      split at h
      ·simp at h
      ·rename_i hpre
       exact ⟨fun _=>by simp [Refs,Ww,thru,hpre],h⟩
     ·rename_i e
      exact ⟨fun _=>by simp [Refs,Ww,thru,e],h⟩)
theorem Hand.keep {w w':World} {wr:Wrs} {h h':Heap} {g g':Gh} {ex:Bool} {r:Nat} {c:List Nat} {P:Nat→Path→Prop} (H:Vf P w h g w' h' g')
 (hw:∀ k,(∀ r x,h[r]?.join=some x→¬g.F r k)→k<w.heap.size→w'.heap[k]?=w.heap[k]?) (hsz:w.heap.size≤w'.heap.size) {S0:BS}
 (hF:∀ r' x' k,h'[r']?.join=some x'→g'.F r' k→S0 k∨∃ x,h[r']?.join=some x∧g.F r' k) :
 ∀ {us:List Value} {l:List AV} {Ss:List BS},Hand w wr h g ex us l Ss→(∀ a∈l,isX a=true→Refs P a)→(∀ S'∈Ss,∀ k,S0 k→¬S' k)→Hand w' wr h' g' ex us l Ss
 | _,_,_,.nil,_,_=>.nil
 | _,_,_,.cons h1 h2 h3 h4 h5,hp,hS=>.cons (fun hx=>(h1 hx).same (fun b hb=>hw b (h3 b hb).2 (h3 b hb).1)) (fun hx=>⟨(h2 hx).1,VR.keep H (h2 hx).2 (hp _ (by simp) hx)⟩)
  (fun k hk=>⟨Nat.lt_of_lt_of_le (h3 k hk).1 hsz,fun r' x' hx' hF'=>by
   rcases hF r' x' k hx' hF' with h0 | ⟨x,hx,hf⟩
   ·exact hS _ (by simp) k h0 hk
   ·exact (h3 k hk).2 r' x hx hf⟩) h4 (Hand.keep (r:=r) (c:=c) H hw hsz hF h5 (fun a ha=>hp a (by simp [ha])) (fun S' hS'=>hS S' (by simp [hS'])))
theorem Xre {r:Nat} {c:List Nat}:∀ {l:List AV},past r c l=true→∀ a∈l,isX a=true→Refs (Ww r c) a
 | [],_,_,ha,_=>by simp at ha
 | a::l,h,b,hb,hx=>by
   obtain ⟨h1,h2⟩:=Xwr h
   rcases List.mem_cons.1 hb with rfl | hb
   ·exact h1 hx
   ·exact Xre h2 b hb hx
theorem Qe (h:Heap) (r:Nat) (x:Root) (p:Path) (new:Rows) (r':Nat):(upd h r x p new)[r']?.join=if r'=r then some {x with rows:=updR p x.rows new} else h[r']?.join:=Wv _ _ _ _
theorem Xtf {w:World} {wr:Wrs} {ts:List (List Value)} {tm:List Value} {st:St} {g:Gh} {P:Nat→Path→Prop} {r:Nat} {x:Root} {p:Path} {b o n c sz:Nat} {rows:Rows} {i j:Nat} {row:List AV} {S2:BS} {u:Value} {a:AV}
 (G:Good w wr ts tm st g) (hs:Xdn P st) (H:Put1 w wr st.heap g P r x p b o n c sz rows i j row S2 u a) :
 Good (w.setCell ⟨b,o+i*sz+j,none⟩ u) wr ts tm ⟨st.env,st.stk,upd st.heap r x p (rows.set i (row.set j a))⟩ (gPut g r S2) ∧
 Vf P w st.heap g (w.setCell ⟨b,o+i*sz+j,none⟩ u) (upd st.heap r x p (rows.set i (row.set j a))) (gPut g r S2)∧g.F r b ∧
 (w.cell? ⟨b,o+i*sz+j,none⟩).isSome∧w.frozen? ⟨b,o+i*sz+j,none⟩=false∧wr b (o+i*sz+j) ∧
 (¬(p++[(i,j)] <+: p)→∃ rows',Yq (w.setCell ⟨b,o+i*sz+j,none⟩ u) (upd st.heap r x p (rows.set i (row.set j a))) (gPut g r S2) r p=some (.slice (some ⟨b,o,none⟩) n c,sz,rows')):=by
 obtain ⟨m1,m2,m3,m4,m5,m6⟩:=H.main
 have hother:∀ k,k≠b→(w.setCell ⟨b,o+i*sz+j,none⟩ u).heap[k]?=w.heap[k]?:=fun k hk=>Z5 hk
 have hgo:∀ r',r'≠r→(gPut g r S2).ρ r'=g.ρ r'∧(gPut g r S2).G r'=g.G r'∧(gPut g r S2).F r'=g.F r':=fun r' hr=>⟨rfl,rfl,by simp [gPut,hr]⟩
 have hblk:∀ r' x' k,r'≠r→st.heap[r']?.join=some x'→g.F r' k→(w.setCell ⟨b,o+i*sz+j,none⟩ u).heap[k]?=w.heap[k]?:=by
  intro r' x' k hr hx' hF
  refine hother k fun e=>?_
  subst e
  exact H.rel.sep r x r' x' k H.hx hx' (Ne.symm hr) H.ro m1 hF
 have keeps:Vf P w st.heap g (w.setCell ⟨b,o+i*sz+j,none⟩ u) (upd st.heap r x p (rows.set i (row.set j a))) (gPut g r S2):=by
  intro r' q v s t hP hq
  by_cases e:r'=r
  ·subst e
   exact m6 q v s t hq (H.thru q hP ⟨_,hq⟩)
  ·refine ⟨t,?_,rfl⟩
   rw [Xao (wr:=wr) (fun x' hx'=>H.rel.root r' x' hx') (by rw [Qe,if_neg e]) ⟨(hgo r' e).1,(hgo r' e).2.1⟩ (fun x' k hx' hF=>hblk r' x' k e hx' hF)]
   exact hq
 have hsz:(w.setCell ⟨b,o+i*sz+j,none⟩ u).heap.size=w.heap.size:=by simp [World.setCell]
 have hFr:(gPut g r S2).F r=fun k=>g.F r k∨S2 k:=by simp [gPut]
 have hrel:Rel (w.setCell ⟨b,o+i*sz+j,none⟩ u) wr (upd st.heap r x p (rows.set i (row.set j a))) (gPut g r S2):=by
  refine H.rel.change (r:=r) H.refs keeps (Qe _ _ _ _ _) (by rw [hsz];exact Nat.le_refl _) hblk hgo (fun x' hx'=>by cases hx';exact m5 keeps) (fun x' hx' r' y k hr hy hro hF1 hF2=>?_) (fun x' _ k hF=>?_)
  ·cases hx'
   rw [hFr] at hF1
   rcases hF1 with hF1 | hF1
   ·exact H.rel.sep r x r' y k H.hx hy (Ne.symm hr) H.ro hF1 hF2
   ·exact H.apart r' y k hy hF1 hF2
  ·rw [hFr] at hF
   rw [hsz]
   rcases hF with hF | hF
   ·exact H.rel.low r x k H.hx hF
   ·exact H.low k hF
 exact ⟨G.keep hs keeps hrel,keeps,m1,m2,m3,m4,fun hn=>let ⟨t',h1,_⟩:=m6 p _ _ _ H.hp hn;⟨t',h1⟩⟩
end Go.Abs
namespace Go.Abs
theorem Xkz {α:Type} {p:List α} {a:α}:¬(p++[a] <+: p):=fun h=>by
 have:=h.length_le
 simp at this;omega
theorem Hand.length {w:World} {wr:Wrs} {h:Heap} {g:Gh} {ex:Bool}:∀ {us:List Value} {l:List AV} {Ss:List BS},Hand w wr h g ex us l Ss→us.length=l.length
 | _,_,_,.nil=>rfl
 | _,_,_,.cons _ _ _ _ h5=>by simp [Hand.length h5]
set_option maxHeartbeats 2000000 in
theorem Xce {wr:Wrs} {ts:List (List Value)} {tm:List Value} {r:Nat} {p:Path} {i:Nat} {b o n c sz:Nat} {ex:Bool} {k:St→R} {res:Res} :
 ∀ (cs:List AV) (j:Nat) (us:List Value) (Ss:List BS) (st:St) (g:Gh) (w:World),Wt r p i j cs st k=some res→Good w wr ts tm st g →
  (∃ x,st.heap[r]?.join=some x∧x.ro=false∧(ex=true→x.box=true∧p=[]∧x.virt=false)) →
  (∃ rows,Yq w st.heap g r p=some (.slice (some ⟨b,o,none⟩) n c,sz,rows))→Hand w wr st.heap g ex us cs Ss →
  ∃ st' g',k st'=some res∧Good (w.setCells b (o+i*sz+j) us) wr ts tm st' g' ∧
   (∀ q,q<us.length→(w.cell? ⟨b,o+i*sz+j+q,none⟩).isSome=true∧w.frozen? ⟨b,o+i*sz+j+q,none⟩=false∧wr b (o+i*sz+j+q)):=by
 intro cs
 induction cs with
 | nil =>
   intro j us Ss st g w h G hx hp hh
   cases hh
   exact ⟨st,g,h,G,fun q hq=>by simp at hq⟩
 | cons a cs ih =>
   intro j us Ss st g w h G hx hp hh
   cases hh with
   | @cons u _ S us _ Ss h1 h2 h3 h4 h5 =>
   obtain ⟨x,hx1,hx2,hx3⟩:=hx
   obtain ⟨rows0,hp⟩:=hp
   have step:∀ (P:Nat→Path→Prop) (st1:St) (x1:Root) (rows:Rows) (row:List AV),Good w wr ts tm st1 g→Xdn P st1→st1.heap[r]?.join=some x1→x1.ro=false→(ex=true→x1.box=true∧p=[]∧x1.virt=false) →
    Yq w st1.heap g r p=some (.slice (some ⟨b,o,none⟩) n c,sz,rows)→rows[i]?=some row→j<row.length →
    (∀ q,P r q→(∃ y,Yq w st1.heap g r q=some y)→¬(p++[(i,j)] <+: q))→Hand w wr st1.heap g ex (u::us) (a::cs) (S::Ss)→(∀ a'∈a::cs,isX a'=true→Refs P a') →
    Wt r p i (j+1) cs ⟨st1.env,st1.stk,upd st1.heap r x1 p (rows.set i (row.set j a))⟩ k=some res →
    ∃ st' g',k st'=some res∧Good (w.setCells b (o+i*sz+j) (u::us)) wr ts tm st' g' ∧
     (∀ q,q<(u::us).length→(w.cell? ⟨b,o+i*sz+j+q,none⟩).isSome=true∧w.frozen? ⟨b,o+i*sz+j+q,none⟩=false∧wr b (o+i*sz+j+q)):=by
    intro P st1 x1 rows row G1 hs hx1' hro hex hp1 hi hj hthru hh1 hrefs hk
    cases hh1 with
    | cons h1 h2 h3 h4 h5 =>
    have H:Put1 w wr st1.heap g P r x1 p b o n c sz rows i j row S u a :=
     ⟨G1.rel,hx1',hro,hp1,hi,hj,hthru,hs.2.2,h1,fun hX=>let ⟨e1,e2⟩:=h2 hX;let ⟨f1,f2,f3⟩:=hex e1;⟨f1,f2,f3,e2,hrefs a (by simp) hX⟩,fun r' x' k hx' hS=>(h3 k hS).2 r' x' hx',fun k hS=>(h3 k hS).1⟩
    obtain ⟨G2,keeps,m1,m3,m4,m5,m6⟩:=Xtf G1 hs H
    have hother:∀ k,k≠b→(w.setCell ⟨b,o+i*sz+j,none⟩ u).heap[k]?=w.heap[k]?:=fun k hk=>Z5 hk
    have hsz:(w.setCell ⟨b,o+i*sz+j,none⟩ u).heap.size=w.heap.size:=by simp [World.setCell]
    have hand2:Hand (w.setCell ⟨b,o+i*sz+j,none⟩ u) wr (upd st1.heap r x1 p (rows.set i (row.set j a))) (gPut g r S) ex us cs Ss:=by
     refine Hand.keep (r:=r) (c:=[]) keeps (fun k hk _=>hother k fun e=>hk r x1 hx1' (e▸m1)) (by rw [hsz];exact Nat.le_refl _) (S0:=S) ?_ h5 (fun a' ha' hX=>hrefs a' (by simp [ha']) hX) h4
     intro r' x' k hx' hF
     rw [Qe] at hx'
     by_cases e:r'=r
     ·subst e
      simp only [gPut,if_true] at hF
      rcases hF with hF | hF
      ·exact .inr ⟨x1,hx1',hF⟩
      ·exact .inl hF
     ·rw [if_neg e] at hx'
      simp only [gPut,if_neg e] at hF
      exact .inr ⟨x',hx',hF⟩
    obtain ⟨st',g',k1,k2,k3⟩:=ih (j+1) us Ss _ (gPut g r S) _ hk G2 ⟨{x1 with rows:=updR p x1.rows (rows.set i (row.set j a))},by rw [Qe,if_pos rfl],hro,hex⟩ (m6 Xkz) hand2
    refine ⟨st',g',k1,by rw [World.setCells];simpa only [Nat.add_assoc] using k2,fun q hq=>?_⟩
    cases q with
    | zero=>exact ⟨m3,m4,m5⟩
    | succ q =>
      obtain ⟨e1,e2,e3⟩:=k3 q (by simpa using hq)
      rw [show o+i*sz+(j+1)+q=o+i*sz+j+(q+1) by omega] at e1 e2 e3
      rw [World.cell?_setCell_other _ _ _ _ (by intro e;simp only [Addr.mk.injEq] at e;omega)] at e1
      rw [World.frozen?_setCell] at e2
      exact ⟨e1,e2,e3⟩
   have hh0:Hand w wr st.heap g ex (u::us) (a::cs) (S::Ss):=.cons h1 h2 h3 h4 h5
   simp only [Wt] at h
   cases hsl:isSl a with
   | true =>
     simp only [hsl] at h
     rw [Xl3] at h
     split at h
     ·rename_i hpast
      rw [Xlf] at h
      obtain ⟨x1,sz1,rows,e1,e2,h⟩:=Xhx h
      obtain ⟨row,e3,e4,h⟩:=Xf9 h
      obtain ⟨G1,hs⟩:=G.kill r ((p++[(0,j)]).map Prod.snd)
      have e5:x1=kRt r ((p++[(0,j)]).map Prod.snd) x:=by
       simp only [kSt,Uy,hx1,Option.map_some,Option.some.injEq] at e1
       exact e1.symm
      obtain ⟨f1,f2,f3,f4⟩:=Ql r ((p++[(0,j)]).map Prod.snd) x
      obtain ⟨rows1,hp1,_⟩:=Xb3 (w:=w) (h:=st.heap) (g:=g) r ((p++[(0,j)]).map Prod.snd) r p _ _ _ trivial hp
      obtain ⟨y,hy,hy2,_⟩:=Yr hp1
      have e6:y=x1:=by
       simp only [kSt] at e1
       rw [hy] at e1
       exact Option.some.inj e1
      subst e6
      rw [e2] at hy2
      simp only [Option.some.injEq,Prod.mk.injEq] at hy2
      obtain ⟨rfl,rfl⟩:=hy2
      have hand1:Hand w wr (kHp r ((p++[(0,j)]).map Prod.snd) st.heap) g ex (u::us) (a::cs) (S::Ss):=by
       refine Hand.keep (r:=r) (c:=[]) (P:=fun _ _=>True) (Xb3 r _) (fun k _ _=>rfl) (Nat.le_refl _) (S0:=fun _=>False) ?_ hh0 (fun a' _ _=>Refs.all (fun _ _=>trivial) a') (fun _ _ _ h=>h.elim)
       intro r' x' k hx' hF
       rw [Uy] at hx'
       cases hx0:st.heap[r']?.join with
       | none=>simp [hx0] at hx'
       | some x0=>exact .inr ⟨x0,rfl,hF⟩
      refine step (Ww r (List.map Prod.snd (p++[((0:Nat),j)]))) (kSt r (List.map Prod.snd (p++[((0:Nat),j)])) st) y rows row G1 hs e1 (by rw [e5,f1];exact hx2) (fun he=>by rw [e5,f2,f3];exact hx3 he) hp1 e3 e4 (fun q hq _ hpre=>?_) hand1 (Xre hpast) h
      have:(p++[(0,j)]).map Prod.snd=(p++[(i,j)]).map Prod.snd:=by simp
      rw [this] at hq
      exact Xl4 hq hpre
     ·simp at h
   | false =>
     simp only [hsl] at h
     obtain ⟨x1,sz1,rows,e1,e2,h⟩:=Xhx h
     obtain ⟨row,e3,h⟩:=Ur h
     obtain ⟨old,e4,h⟩:=Uq h
     have e5:x1=x:=by rw [hx1] at e1;exact (Option.some.inj e1).symm
     subst e5
     obtain ⟨y,hy,hy2,_⟩:=Yr hp
     have e6:y=x1:=by rw [hy] at hx1;exact Option.some.inj hx1
     subst e6
     rw [e2] at hy2
     simp only [Option.some.injEq,Prod.mk.injEq] at hy2
     obtain ⟨rfl,rfl⟩:=hy2
     have hold:(∀ s t,old≠.lst s t)∧Ve rows i j a (fun new=>Wt r p i (j+1) cs ⟨st.env,st.stk,upd st.heap r y p new⟩ k)=some res:=by
      split at h
      ·simp at h
      ·rename_i hn
       exact ⟨fun s t e=>hn s t e,h⟩
     obtain ⟨hnl,h⟩:=hold
     obtain ⟨row',e7,e8,h⟩:=Xf9 h
     rw [e3] at e7
     cases e7
     refine step (fun _ _=>True) st y rows row G (Xdn.all (fun _ _=>trivial) st) hx1 hx2 hx3 hp e3 e8 (fun q _ hq hpre=>?_) hh0 (fun a' _ _=>Refs.all (fun _ _=>trivial) a') h
     obtain ⟨q',rfl⟩:=hpre
     obtain ⟨y',hy'⟩:=hq
     rw [List.append_assoc,Xhw hp] at hy'
     simp only [List.singleton_append,walk,e3,e4] at hy'
     split at hy'
     ·rename_i s t hst
      exact hnl s t (by simpa using hst)
     ·simp at hy'
end Go.Abs
namespace Go.Abs
theorem Xvk {p:Path} {sz:Nat} {rows:Rows} {sz':Nat} {rows':Rows} {i j:Nat} {row:List AV} {szt:Nat} {t:Rows}
 (hp:resR p sz rows=some (sz',rows')) (hi:rows'[i]?=some row) (hj:row[j]?=some (.lst szt t)) :
 ∃ i0 j0 row0 sz0 rows0 a0 p2,rows[i0]?=some row0∧row0[j0]?=some (.lst sz0 rows0)∧updR p rows (rows'.set i (row.set j .undef))=rows.set i0 (row0.set j0 a0) ∧
  p++[(i,j)]=(i0,j0)::p2∧isX a0=false∧(∀ sz rows,a0=.lst sz rows→p2≠[]) ∧
  (∀ (w:World) (K:CS) (S:BS) (v:Value),TR w true K S v (.lst sz0 rows0)→∃ S2 vt,(∀ k,S2 k→S k)∧walk w v sz0 rows0 p2=some (vt,szt,t) ∧
   TR w true K S2 vt (.lst szt t)∧TR w true K (fun k=>S k∧¬S2 k) v a0):=by
 cases p with
 | nil =>
   simp only [resR,Option.some.injEq,Prod.mk.injEq] at hp
   obtain ⟨rfl,rfl⟩:=hp
   exact ⟨i,j,row,szt,t,.undef,[],hi,hj,rfl,rfl,rfl,fun _ _ h=>(by cases h),fun w K S v h=>⟨S,v,fun _ h=>h,rfl,h,.undef v⟩⟩
 | cons q p =>
   obtain ⟨i0,j0⟩:=q
   simp only [resR] at hp
   split at hp
   ·cases hp
   ·rename_i row1 h1
    split at hp
    ·rename_i sz1 rows1 h2
     refine ⟨i0,j0,row1,sz1,rows1,.lst sz1 (updR p rows1 (rows'.set i (row.set j .undef))),p++[(i,j)],h1,h2,by simp only [updR,h1,h2],rfl,rfl,fun _ _ _=>by simp,fun w K S v h=>?_⟩
     obtain ⟨S2,vt,g1,g2,g3,g4⟩:=h.take hp hi hj
     exact ⟨S2,vt,g1,g2,g3,g4⟩
    ·cases hp
theorem Xoe {w:World} {v:Value} {sz:Nat} {rows:Rows} {p:Path} {sz':Nat} {rows':Rows} {i j:Nat} {row:List AV}
 (hp:resR p sz rows=some (sz',rows')) (hi:rows'[i]?=some row) (hj:j<row.length) {q:Path} {vq:Value} {szq:Nat} {rowsq:Rows}
 (hw:walk w v sz (updR p rows (rows'.set i (row.set j .undef))) q=some (vq,szq,rowsq)) :
 (∃ rowsq',walk w v sz rows q=some (vq,szq,rowsq')∧rowsq'.length=rowsq.length)∧¬(p++[(i,j)] <+: q):=by
 induction p generalizing v sz rows q with
 | nil =>
   simp only [resR,Option.some.injEq,Prod.mk.injEq] at hp
   obtain ⟨rfl,rfl⟩:=hp
   have hil:i<rows.length:=(List.getElem?_eq_some_iff.1 hi).1
   simp only [updR] at hw
   cases q with
   | nil =>
     simp only [walk,Option.some.injEq,Prod.mk.injEq] at hw
     obtain ⟨rfl,rfl,rfl⟩:=hw
     exact ⟨⟨rows,rfl,by simp⟩,by simp⟩
   | cons q1 q =>
     obtain ⟨i1,j1⟩:=q1
     simp only [walk] at hw
     split at hw
     ·split at hw
      ·cases hw
      ·rename_i row1 h1
       split at hw
       ·rename_i sz1 rows1 h2
        have hold:∃ row2,rows[i1]?=some row2∧row2[j1]?=some (.lst sz1 rows1)∧¬(i1=i∧j1=j):=by
         by_cases e3:i=i1
         ·subst e3
          rw [List.getElem?_set_self hil] at h1
          cases h1
          by_cases e4:j=j1
          ·subst e4
           rw [List.getElem?_set_self hj] at h2
           cases h2
          ·rw [List.getElem?_set_ne e4] at h2
           exact ⟨row,hi,h2,fun e=>e4 e.2.symm⟩
         ·rw [List.getElem?_set_ne e3] at h1
          exact ⟨row1,h1,h2,fun e=>e3 e.1.symm⟩
        obtain ⟨row2,h5,h6,h7⟩:=hold
        refine ⟨⟨rowsq,by simp only [walk,h5,h6];exact hw,rfl⟩,fun hpre=>h7 ?_⟩
        simpa [eq_comm] using hpre
       ·cases hw
     ·cases hw
 | cons q0 p ih =>
   obtain ⟨i0,j0⟩:=q0
   simp only [resR] at hp
   split at hp
   ·cases hp
   ·rename_i row1 h1
    split at hp
    ·rename_i sz1 rows1 h2
     have hil:i0<rows.length:=(List.getElem?_eq_some_iff.1 h1).1
     have hjl:j0<row1.length:=(List.getElem?_eq_some_iff.1 h2).1
     simp only [updR,h1,h2] at hw
     cases q with
     | nil =>
       simp only [walk,Option.some.injEq,Prod.mk.injEq] at hw
       obtain ⟨rfl,rfl,rfl⟩:=hw
       exact ⟨⟨rows,rfl,by simp⟩,by simp⟩
     | cons q1 q =>
       obtain ⟨i1,j1⟩:=q1
       simp only [walk] at hw
       split at hw
       ·rename_i ad n c
        by_cases e1:i1=i0∧j1=j0
        ·obtain ⟨rfl,rfl⟩:=e1
         rw [List.getElem?_set_self hil] at hw
         simp only at hw
         rw [List.getElem?_set_self hjl] at hw
         simp only at hw
         split at hw
         ·rename_i v1 h3
          obtain ⟨⟨rowsq',h4,h5⟩,h6⟩:=ih hp hw
          exact ⟨⟨rowsq',by simp only [walk,h1,h2,h3];exact h4,h5⟩,fun hh=>h6 (by simpa using hh)⟩
         ·cases hw
        ·split at hw
         ·cases hw
         ·rename_i row3 k1
          split at hw
          ·rename_i sz3 rows3 k2
           have hold:∃ row2,rows[i1]?=some row2∧row2[j1]?=some (.lst sz3 rows3):=by
            by_cases e3:i0=i1
            ·subst e3
             have e4:j0≠j1:=fun e4=>e1 ⟨rfl,e4.symm⟩
             rw [List.getElem?_set_self hil] at k1
             cases k1
             rw [List.getElem?_set_ne e4] at k2
             exact ⟨row1,h1,k2⟩
            ·rw [List.getElem?_set_ne e3] at k1
             exact ⟨row3,k1,k2⟩
           obtain ⟨row2,h5,h6⟩:=hold
           refine ⟨⟨rowsq,by simp only [walk,h5,h6];exact hw,rfl⟩,fun hpre=>e1 ?_⟩
           simp only [List.cons_append,List.cons_prefix_cons,Prod.mk.injEq] at hpre
           exact ⟨hpre.1.1.symm,hpre.1.2.symm⟩
          ·cases hw
       ·cases hw
    ·cases hp
structure Less (w:World) (h:Heap) (g:Gh) (h':Heap) (g':Gh):Prop where
 back:∀ r q v sz rows',Yq w h' g' r q=some (v,sz,rows')→∃ rows,Yq w h g r q=some (v,sz,rows)∧rows.length=rows'.length
 ro:∀ r x,h[r]?.join=some x→x.ro=true→(∃ x',h'[r]?.join=some x'∧x'.ro=true)∧∀ q v sz rows,Yq w h g r q=some (v,sz,rows)→∃ rows',Yq w h' g' r q=some (v,sz,rows')∧rows'.length=rows.length
 flags:∀ r x',h'[r]?.join=some x'→∃ x,h[r]?.join=some x∧x.ro=x'.ro∧x.virt=x'.virt∧x.box=x'.box∧∀ k,g'.F r k→g.F r k
theorem Less.refl {w:World} {h:Heap} {g:Gh}:Less w h g h g:=⟨fun _ _ _ _ rows h=>⟨rows,h,rfl⟩,fun _ x hx hr=>⟨⟨x,hx,hr⟩,fun _ _ _ rows h=>⟨rows,h,rfl⟩⟩,fun _ x hx=>⟨x,hx,rfl,rfl,rfl,fun _ h=>h⟩⟩
theorem Less.trans {w:World} {h1 h2 h3:Heap} {g1 g2 g3:Gh} (A:Less w h1 g1 h2 g2) (B:Less w h2 g2 h3 g3):Less w h1 g1 h3 g3:=by
 refine ⟨fun r q v sz rows' hh=>?_,fun r x hx hr=>?_,fun r x hx=>?_⟩
 ·obtain ⟨r2,e1,e2⟩:=B.back _ _ _ _ _ hh
  obtain ⟨r1,e3,e4⟩:=A.back _ _ _ _ _ e1
  exact ⟨r1,e3,e4.trans e2⟩
 ·obtain ⟨⟨x2,a1,a2⟩,a3⟩:=A.ro r x hx hr
  obtain ⟨b1,b3⟩:=B.ro r x2 a1 a2
  refine ⟨b1,fun q v sz rows hh=>?_⟩
  obtain ⟨r2,e1,e2⟩:=a3 _ _ _ _ hh
  obtain ⟨r3,e3,e4⟩:=b3 _ _ _ _ e1
  exact ⟨r3,e3,e4.trans e2⟩
 ·obtain ⟨x2,a1,a2,a3,a4,a5⟩:=B.flags r x hx
  obtain ⟨x1,b1,b2,b3,b4,b5⟩:=A.flags r x2 a1
  exact ⟨x1,b1,b2.trans a2,b3.trans a3,b4.trans a4,fun k hk=>b5 k (a5 k hk)⟩
def X3i (w:World) (h:Heap) (g:Gh) (a:AV):Prop:=match a with
 | .ref r p=>∃ y,Yq w h g r p=some y
 | .sub r p _ _=>∃ y,Yq w h g r p=some y
 | .ptr r p _ _=>∃ y,Yq w h g r p=some y
 | .fn _ _=>False
 | .agg _=>False
 | .tup _=>False
 | _=>True
def WR (w:World) (h:Heap) (g:Gh) (v:Value) (a:AV):Prop:=X3i w h g a→VR w h g v a
theorem VR.weak {w:World} {h:Heap} {g:Gh} {v:Value} {a:AV} (H:VR w h g v a):WR w h g v a:=fun _=>H
theorem Less.WR {w:World} {h h':Heap} {g g':Gh} (L:Less w h g h' g') {v:Value} {a:AV} (H:WR w h g v a):WR w h' g' v a:=by
 intro hn
 cases a <;> simp only [X3i] at hn
 case ref r p =>
  obtain ⟨⟨v',sz,rows'⟩,hn⟩:=hn
  obtain ⟨rows,h1,h2⟩:=L.back _ _ _ _ _ hn
  cases H ⟨_,h1⟩ with
  | ref h3=>rw [h3] at h1;cases h1;exact .ref hn
 case sub r p off len =>
  obtain ⟨⟨v',sz,rows'⟩,hn⟩:=hn
  obtain ⟨rows,h1,h2⟩:=L.back _ _ _ _ _ hn
  cases H ⟨_,h1⟩ with
  | sub h3 h4 h5=>rw [h3] at h1;cases h1;exact .sub hn (by rw [←h2];exact h4) h5
 case ptr r p i j =>
  obtain ⟨⟨v',sz,rows'⟩,hn⟩:=hn
  obtain ⟨rows,h1,h2⟩:=L.back _ _ _ _ _ hn
  cases H ⟨_,h1⟩ with
  | ptr h3=>rw [h3] at h1;cases h1;exact .ptr hn
 all_goals
  have:=H trivial
  cases this <;> constructor
end Go.Abs
namespace Go.Abs
def Uu (w:World) (G:List Value) (rows:Rows):Path→Option (Value×Nat×Rows)
 | []=>none
 | (i,j)::p=>match rows[i]? with
   | none=>none
   | some row=>match row[j]? with
     | some (.lst sz rows)=>match i,G[j]? with
       | 0,some v=>walk w v sz rows p
       | _,_=>none
     | _=>none
theorem Y2 {w:World} {h:Heap} {g:Gh} {r:Nat} {x:Root} (hx:h[r]?.join=some x) (p:Path) :
 Yq w h g r p=match x.virt with | false=>walk w (g.ρ r) x.sz x.rows p | true=>Uu w (g.G r) x.rows p:=by
 unfold Yq
 simp only [hx]
 cases x.virt with
 | false=>rfl
 | true=>cases p with
   | nil=>rfl
   | cons a p=>rfl
theorem Xws {w:World} {G:List Value} {sz:Nat} {rows:Rows} {p:Path} {sz':Nat} {rows':Rows} {i j:Nat} {row:List AV}
 (hp:resR p sz rows=some (sz',rows')) (hi:rows'[i]?=some row) (hj:j<row.length) {q:Path} {vq:Value} {szq:Nat} {rowsq:Rows}
 (hw:Uu w G rows q=some (vq,szq,rowsq)) (hn:¬(p++[(i,j)] <+: q)) :
 ∃ rowsq',Uu w G (updR p rows (rows'.set i (row.set j .undef))) q=some (vq,szq,rowsq')∧rowsq'.length=rowsq.length:=by
 cases q with
 | nil=>simp [Uu] at hw
 | cons q1 q =>
 obtain ⟨i1,j1⟩:=q1
 simp only [Uu] at hw
 split at hw
 ·cases hw
 rename_i row1 h1
 split at hw
 ·rename_i sz1 rows1 h2
  split at hw
  ·rename_i v1 h3
   cases p with
   | nil =>
     simp only [resR,Option.some.injEq,Prod.mk.injEq] at hp
     obtain ⟨rfl,rfl⟩:=hp
     have hil:i<rows.length:=(List.getElem?_eq_some_iff.1 hi).1
     have e1:¬(0=i∧j1=j):=fun e=>hn (by obtain ⟨rfl,rfl⟩:=e;simp)
     have hnew:∃ row2,(rows.set i (row.set j .undef))[0]?=some row2∧row2[j1]?=some (.lst sz1 rows1):=by
      by_cases e3:i=0
      ·subst e3
       have e4:j≠j1:=fun e4=>e1 ⟨rfl,e4.symm⟩
       rw [hi] at h1
       cases h1
       exact ⟨_,List.getElem?_set_self hil,by rw [List.getElem?_set_ne e4];exact h2⟩
      ·exact ⟨row1,by rw [List.getElem?_set_ne e3];exact h1,h2⟩
     obtain ⟨row2,h5,h6⟩:=hnew
     exact ⟨rowsq,by simp only [Uu,updR,h5,h6,h3];exact hw,rfl⟩
   | cons q0 p =>
     obtain ⟨i0,j0⟩:=q0
     simp only [resR] at hp
     split at hp
     ·cases hp
     rename_i row3 k1
     split at hp
     ·rename_i sz3 rows3 k2
      have hil:i0<rows.length:=(List.getElem?_eq_some_iff.1 k1).1
      have hjl:j0<row3.length:=(List.getElem?_eq_some_iff.1 k2).1
      by_cases e1:0=i0∧j1=j0
      ·obtain ⟨rfl,rfl⟩:=e1
       rw [h1] at k1
       cases k1
       rw [h2] at k2
       cases k2
       obtain ⟨rowsq',h4,h5⟩:=Xrb (v':=default) (a:=.undef) hp hi hj hw (fun hh=>hn (by simpa using hh))
       refine ⟨rowsq',?_,h5⟩
       simp only [Uu,updR,h1,h2,List.getElem?_set_self hil,List.getElem?_set_self hjl,h3]
       exact h4
      ·have hnew:∃ row2,(rows.set i0 (row3.set j0 (.lst sz3 (updR p rows3 (rows'.set i (row.set j .undef))))))[0]?=some row2∧row2[j1]?=some (.lst sz1 rows1):=by
        by_cases e3:i0=0
        ·subst e3
         have e4:j0≠j1:=fun e4=>e1 ⟨rfl,e4.symm⟩
         rw [h1] at k1
         cases k1
         exact ⟨_,List.getElem?_set_self hil,by rw [List.getElem?_set_ne e4];exact h2⟩
        ·exact ⟨row1,by rw [List.getElem?_set_ne e3];exact h1,h2⟩
       obtain ⟨row2,h5,h6⟩:=hnew
       exact ⟨rowsq,by simp only [Uu,updR,k1,k2,h5,h6,h3];exact hw,rfl⟩
     ·cases hp
  ·cases hw
 ·cases hw
theorem Xtg {w:World} {G:List Value} {sz:Nat} {rows:Rows} {p:Path} {sz':Nat} {rows':Rows} {i j:Nat} {row:List AV}
 (hp:resR p sz rows=some (sz',rows')) (hi:rows'[i]?=some row) (hj:j<row.length) {q:Path} {vq:Value} {szq:Nat} {rowsq:Rows}
 (hw:Uu w G (updR p rows (rows'.set i (row.set j .undef))) q=some (vq,szq,rowsq)) :
 ∃ rowsq',Uu w G rows q=some (vq,szq,rowsq')∧rowsq'.length=rowsq.length:=by
 cases q with
 | nil=>simp [Uu] at hw
 | cons q1 q =>
 obtain ⟨i1,j1⟩:=q1
 simp only [Uu] at hw
 split at hw
 ·cases hw
 rename_i row1 h1
 split at hw
 ·rename_i sz1 rows1 h2
  split at hw
  ·rename_i v1 h3
   cases p with
   | nil =>
     simp only [resR,Option.some.injEq,Prod.mk.injEq] at hp
     obtain ⟨rfl,rfl⟩:=hp
     have hil:i<rows.length:=(List.getElem?_eq_some_iff.1 hi).1
     simp only [updR] at h1
     have hold:∃ row2,rows[0]?=some row2∧row2[j1]?=some (.lst sz1 rows1):=by
      by_cases e3:i=0
      ·subst e3
       rw [List.getElem?_set_self hil] at h1
       cases h1
       by_cases e4:j=j1
       ·subst e4
        rw [List.getElem?_set_self hj] at h2
        cases h2
       ·rw [List.getElem?_set_ne e4] at h2
        exact ⟨row,hi,h2⟩
      ·rw [List.getElem?_set_ne e3] at h1
       exact ⟨row1,h1,h2⟩
     obtain ⟨row2,h5,h6⟩:=hold
     exact ⟨rowsq,by simp only [Uu,h5,h6,h3];exact hw,rfl⟩
   | cons q0 p =>
     obtain ⟨i0,j0⟩:=q0
     simp only [resR] at hp
     split at hp
     ·cases hp
     rename_i row3 k1
     split at hp
     ·rename_i sz3 rows3 k2
      have hil:i0<rows.length:=(List.getElem?_eq_some_iff.1 k1).1
      have hjl:j0<row3.length:=(List.getElem?_eq_some_iff.1 k2).1
      simp only [updR,k1,k2] at h1
      by_cases e1:0=i0∧j1=j0
      ·obtain ⟨rfl,rfl⟩:=e1
       rw [List.getElem?_set_self hil] at h1
       cases h1
       rw [List.getElem?_set_self hjl] at h2
       cases h2
       obtain ⟨⟨rowsq',h4,h5⟩,_⟩:=Xoe hp hi hj hw
       exact ⟨rowsq',by simp only [Uu,k1,k2,h3];exact h4,h5⟩
      ·have hold:∃ row2,rows[0]?=some row2∧row2[j1]?=some (.lst sz1 rows1):=by
        by_cases e3:i0=0
        ·subst e3
         have e4:j0≠j1:=fun e4=>e1 ⟨rfl,e4.symm⟩
         rw [List.getElem?_set_self hil] at h1
         cases h1
         rw [List.getElem?_set_ne e4] at h2
         exact ⟨row3,k1,h2⟩
        ·rw [List.getElem?_set_ne e3] at h1
         exact ⟨row1,h1,h2⟩
       obtain ⟨row2,h5,h6⟩:=hold
       exact ⟨rowsq,by simp only [Uu,h5,h6,h3];exact hw,rfl⟩
     ·cases hp
  ·cases hw
 ·cases hw
def gCut (g:Gh) (r:Nat) (S2:BS):Gh:=⟨g.ρ,g.G,fun r'=>if r'=r then (fun k=>g.F r k∧¬S2 k) else g.F r'⟩
theorem Xl7 {w:World} {h:Heap} {g:Gh} {r:Nat} {S2:BS} (r':Nat) (q:Path):Yq w h (gCut g r S2) r' q=Yq w h g r' q:=rfl
theorem Qh {w:World} {h h':Heap} {g:Gh} {r:Nat} (e:h'[r]?.join=h[r]?.join) (q:Path):Yq w h' g r q=Yq w h g r q:=by
 unfold Yq
 rw [e]
section
variable {w:World} {wr:Wrs} {h:Heap} {g:Gh} {P:Nat→Path→Prop} {r:Nat} {x:Root} {p:Path} {sz:Nat} {rows:Rows} {i j:Nat} {row:List AV} {szt:Nat} {t:Rows}
theorem Xl8 (hx:h[r]?.join=some x) (hp:resR p x.sz x.rows=some (sz,rows)) (hi:rows[i]?=some row) (hj:row[j]?=some (.lst szt t)) (hthru:∀ q,P r q→¬(p++[(i,j)] <+: q)) (S2:BS) :
 Vf P w h g w (upd h r x p (rows.set i (row.set j .undef))) (gCut g r S2) ∧
 ∀ r' q v s t',Yq w (upd h r x p (rows.set i (row.set j .undef))) (gCut g r S2) r' q=some (v,s,t')→∃ t,Yq w h g r' q=some (v,s,t)∧t.length=t'.length:=by
 have hjl:j<row.length:=(List.getElem?_eq_some_iff.1 hj).1
 have hnew:(upd h r x p (rows.set i (row.set j .undef)))[r]?.join=some {x with rows:=updR p x.rows (rows.set i (row.set j .undef))}:=by rw [Qe,if_pos rfl]
 constructor
 ·intro r' q v s t0 hP hq
  rw [Xl7]
  by_cases e:r'=r
  ·subst e
   rw [Y2 hx] at hq
   rw [Y2 hnew]
   cases hv:x.virt with
   | false=>simp only [hv] at hq ⊢;exact Xrb (v':=default) hp hi hjl hq (hthru q hP)
   | true=>simp only [hv] at hq ⊢;exact Xws hp hi hjl hq (hthru q hP)
  ·exact ⟨t0,(Qh (h:=h) (by rw [Qe,if_neg e]) q).trans hq,rfl⟩
 ·intro r' q v s t0 hq
  rw [Xl7] at hq
  by_cases e:r'=r
  ·subst e
   rw [Y2 hnew] at hq
   rw [Y2 hx]
   cases hv:x.virt with
   | false=>simp only [hv] at hq ⊢;exact (Xoe hp hi hjl hq).1
   | true=>simp only [hv] at hq ⊢;exact Xtg hp hi hjl hq
  ·exact ⟨t0,(Qh (h:=h) (h':=upd h r x p (rows.set i (row.set j .undef))) (by rw [Qe,if_neg e]) q).symm.trans hq,rfl⟩
theorem Rel.pull (R:Rel w wr h g) (hP:Xcd P h) (hx:h[r]?.join=some x) (hro:x.ro=false) (hp:resR p x.sz x.rows=some (sz,rows)) (hi:rows[i]?=some row) (hj:row[j]?=some (.lst szt t))
 (hthru:∀ q,P r q→¬(p++[(i,j)] <+: q)) :
 ∃ S2 vt,Yq w h g r (p++[(i,j)])=some (vt,szt,t)∧TR w true (Kr w wr false) S2 vt (.lst szt t)∧(∀ k,S2 k→g.F r k) ∧
  Rel w wr (upd h r x p (rows.set i (row.set j .undef))) (gCut g r S2):=by
 have hR:=R.root r x hx
 have hjl:j<row.length:=(List.getElem?_eq_some_iff.1 hj).1
 have hFr:∀ S2,(gCut g r S2).F r=fun k=>g.F r k∧¬S2 k:=fun S2=>by simp [gCut]
 have frame:∀ S2:BS,(Vf P w h g w (upd h r x p (rows.set i (row.set j .undef))) (gCut g r S2)→Zu w wr (upd h r x p (rows.set i (row.set j .undef))) (gCut g r S2) r {x with rows:=updR p x.rows (rows.set i (row.set j .undef))}) →
  Rel w wr (upd h r x p (rows.set i (row.set j .undef))) (gCut g r S2):=by
  intro S2 hX
  have keeps:=(Xl8 (w:=w) (g:=g) (P:=P) hx hp hi hj hthru S2).1
  refine R.change (r:=r) hP keeps (Qe _ _ _ _ _) (Nat.le_refl _) (fun _ _ _ _ _ _=>rfl) (fun r' e=>⟨rfl,rfl,by simp [gCut,e]⟩) (fun x' hx'=>by cases hx';exact hX keeps)
   (fun x' hx' r' y k hr hy hro' hF1 hF2=>?_) (fun x' _ k hF=>?_)
  ·rw [hFr] at hF1
   exact R.sep r x r' y k hx hy (Ne.symm hr) hro hF1.1 hF2
  ·rw [hFr] at hF
   exact R.low r x k hx hF.1
 unfold Zu at hR
 cases hvt:x.virt with
 | false =>
   simp only [hvt] at hR
   cases hbx:x.box with
   | false =>
     simp only [hbx,hro,Bool.not_false] at hR
     obtain ⟨S2,vt,k1,k2,k3,k4⟩:=hR.take hp hi hj
     refine ⟨S2,vt,by rw [Y2 hx];simp only [hvt];exact k2,k3,k1,frame S2 fun _=>?_⟩
     unfold Zu
     simp only [hvt,hbx,hro,Bool.not_false,hFr]
     exact k4
   | true =>
     simp only [hbx] at hR
     obtain ⟨b,o,cs,e0,fz,f,h1,h2,h3,h4,h5,h6,h7,h8,h9⟩:=hR
     obtain ⟨d1,d2⟩:=h8 hro
     obtain ⟨i0,j0,row0,sz0,rows0,a0,p2,t1,t2,t3,t4,t5,_,t6⟩:=Xvk hp hi hj
     have hc0:=h9 i0 j0 row0 _ t1 t2
     simp only [Ut,isX,hro,Bool.not_false] at hc0
     obtain ⟨S2,vt,k1,k2,k3,k4⟩:=t6 _ _ _ _ hc0
     have hil:i0<x.rows.length:=(List.getElem?_eq_some_iff.1 t1).1
     have hjl0:j0<row0.length:=(List.getElem?_eq_some_iff.1 t2).1
     have hjs:j0<x.sz:=by rw [←h4 row0 (mem_get t1)];exact hjl0
     have hq:o+i0*x.sz+j0<cs.size:=Nat.lt_of_lt_of_le (Q0 hil (Nat.le_refl _) hjs) h3
     have e1:cs[o+i0*x.sz+j0]?=some (cs.getD (o+i0*x.sz+j0) default):=by simp [Array.getD_eq_getD_getElem?,hq]
     refine ⟨S2,vt,?_,k3,fun k hk=>h7 _ _ _ (k1 k hk),frame S2 fun keeps=>?_⟩
     ·rw [Y2 hx,t4,h1]
      simp only [hvt]
      rw [Qa h2]
      simp only [t1,t2,e1]
      exact k2
     ·unfold Zu
      simp only [hvt,hbx,t3]
      refine ⟨b,o,cs,e0,fz,fun i' j'=>if i'=i0∧j'=j0 then (fun k=>f i0 j0 k∧¬S2 k) else f i' j',by simp only [gCut,List.length_set];exact h1,h2,by simp only [List.length_set];exact h3,Xed t1 h4,by simp only [List.length_set];exact h5,?_,?_,?_,?_⟩
      ·rw [hFr];exact ⟨h6,fun hk=>d1 _ _ (k1 _ hk)⟩
      ·intro i' j' k hk
       rw [hFr]
       split at hk
       ·exact ⟨h7 _ _ _ hk.1,hk.2⟩
       ·rename_i hne
        exact ⟨h7 _ _ _ hk,fun hk2=>hne (d2 _ _ _ _ k hk (k1 k hk2))⟩
      ·intro _
       refine ⟨fun i' j' hk=>?_,fun i1 j1 i2 j2 k q1 q2=>?_⟩
       ·dsimp only at hk
        split at hk
        ·exact d1 _ _ hk.1
        ·exact d1 _ _ hk
       ·dsimp only at q1 q2
        split at q1 <;> split at q2
        ·rename_i a b;exact ⟨a.1.trans b.1.symm,a.2.trans b.2.symm⟩
        ·rename_i a1 a2
         have:=d2 _ _ _ _ k q1.1 q2;exact absurd ⟨this.1.symm,this.2.symm⟩ a2
        ·rename_i a1 a2
         exact absurd (d2 _ _ _ _ k q1 q2.1) a1
        ·exact d2 _ _ _ _ k q1 q2
      ·intro i' j' row' a' hr ha
       simp only [hro]
       rcases Xjh t1 hjl0 hr ha with ⟨rfl,rfl,rfl⟩ | ⟨hn,row1,hr0,ha0⟩
       ·simp only [and_self,if_true,Ut,t5,Bool.not_false]
        exact k4
       ·simp only [if_neg hn]
        have hc:=h9 i' j' row1 a' hr0 ha0
        unfold Ut at hc ⊢
        cases hx':isX a' with
        | true =>
          simp only [hx'] at hc
          exact VR.keep keeps hc (hP r x row1 a' hx hbx (mem_get hr0) (mem_get ha0) hx')
        | false =>
          simp only [hx',hro] at hc
          exact hc
 | true =>
   simp only [hvt] at hR
   obtain ⟨vrow,f,h1,h2,h3,h4,h5⟩:=hR
   obtain ⟨i0,j0,row0,sz0,rows0,a0,p2,t1,t2,t3,t4,t5,_,t6⟩:=Xvk hp hi hj
   have hi0:i0=0∧row0=vrow:=by
    rw [h1] at t1
    cases i0 with
    | zero=>simp at t1;exact ⟨rfl,t1.symm⟩
    | succ n=>simp at t1
   obtain ⟨rfl,rfl⟩:=hi0
   have hjl0:j0<row0.length:=(List.getElem?_eq_some_iff.1 t2).1
   have hG:(g.G r)[j0]?=some ((g.G r)[j0]'(by rw [h2];exact hjl0)):=List.getElem?_eq_getElem _
   have hc0:=h5 j0 _ _ t2 hG
   simp only [hro,Bool.not_false] at hc0
   obtain ⟨S2,vt,k1,k2,k3,k4⟩:=t6 _ _ _ _ hc0
   have d2:=h4 hro
   refine ⟨S2,vt,?_,k3,fun k hk=>h3 _ _ (k1 k hk),frame S2 fun _=>?_⟩
   ·rw [Y2 hx,t4]
    simp only [hvt,Uu,t1,t2,hG]
    exact k2
   ·unfold Zu
    simp only [hvt,t3]
    refine ⟨row0.set j0 a0,fun j'=>if j'=j0 then (fun k=>f j0 k∧¬S2 k) else f j',by rw [h1];rfl,by simp only [gCut,List.length_set];exact h2,?_,?_,?_⟩
    ·intro j' k hk
     rw [hFr]
     split at hk
     ·exact ⟨h3 _ _ hk.1,hk.2⟩
     ·rename_i hne
      exact ⟨h3 _ _ hk,fun hk2=>hne (d2 _ _ k hk (k1 k hk2))⟩
    ·intro _ j1 j2 k q1 q2
     split at q1 <;> split at q2
     ·rename_i a b;exact a.trans b.symm
     ·rename_i a1 a2
      exact absurd (d2 _ _ k q1.1 q2).symm a2
     ·rename_i a1 a2
      exact absurd (d2 _ _ k q1 q2.1) a1
     ·exact d2 _ _ k q1 q2
    ·intro j' a v ha hv
     simp only [hro]
     by_cases e:j'=j0
     ·subst e
      rw [List.getElem?_set_self hjl0] at ha
      cases ha
      have:(gCut g r S2).G r=g.G r:=rfl
      rw [this,hG] at hv
      cases hv
      simp only [if_true,Bool.not_false]
      exact k4
     ·rw [List.getElem?_set_ne (Ne.symm e)] at ha
      rw [if_neg e]
      have:=h5 j' a v ha hv
      rw [hro] at this
      exact this
end
end Go.Abs
namespace Go.Abs
theorem Xp2 (r:Nat) (c:List Nat) (h:Heap) (n:Nat) (v:Option Root):kHp r c (put h n v)=put (kHp r c h) n (v.map (kRt r c)):=by
 induction n generalizing h with
 | zero=>cases h <;> rfl
 | succ n ih=>cases h with
   | nil=>simp only [put,kHp,List.map_nil,List.map_cons,List.cons.injEq];exact ⟨rfl,ih []⟩
   | cons a l=>simp only [put,kHp,List.map_cons,List.cons.injEq,true_and];exact ih l
def Xc1 (r:Nat) (c:List Nat) (rows:Rows):Rows:=rows.map (·.map (kV1 r c))
theorem Xji (r:Nat) (c:List Nat) {rows:Rows} {i:Nat} {row:List AV} (h:rows[i]?=some row):(Xc1 r c rows)[i]?=some (row.map (kV1 r c)):=by simp [Xc1,h]
theorem Xl9 (r:Nat) (c:List Nat) {row:List AV} {j sz:Nat} {rows:Rows} (h:row[j]?=some (.lst sz rows)):(row.map (kV1 r c))[j]?=some (.lst sz rows):=by simp [h,Xlg]
theorem Xwt (r:Nat) (c:List Nat) {p:Path} {sz:Nat} {rows:Rows} {sz':Nat} {rows':Rows} {i j:Nat} {row:List AV} {szt:Nat} {t:Rows}
 (hp:resR p sz rows=some (sz',rows')) (hi:rows'[i]?=some row) (hj:row[j]?=some (.lst szt t)) :
 ∃ rows1 row1,resR p sz (Xc1 r c rows)=some (sz',rows1)∧rows1[i]?=some row1∧row1[j]?=some (.lst szt t) ∧
  Xc1 r c (updR p rows (rows'.set i (row.set j .undef)))=updR p (Xc1 r c rows) (rows1.set i (row1.set j .undef)):=by
 cases p with
 | nil =>
   simp only [resR,Option.some.injEq,Prod.mk.injEq] at hp
   obtain ⟨rfl,rfl⟩:=hp
   refine ⟨Xc1 r c rows,row.map (kV1 r c),rfl,Xji r c hi,Xl9 r c hj,?_⟩
   simp only [updR,Xc1,List.map_set]
   rfl
 | cons q p =>
   obtain ⟨i0,j0⟩:=q
   simp only [resR] at hp
   split at hp
   ·cases hp
   rename_i row0 h1
   split at hp
   ·rename_i sz0 rows0 h2
    refine ⟨rows',row,?_,hi,hj,?_⟩
    ·simp only [resR,Xji r c h1,Xl9 r c h2]
     exact hp
    ·simp only [updR,h1,h2,Xji r c h1,Xl9 r c h2]
     simp only [Xc1,List.map_set,Xlg]
   ·cases hp
theorem Xma {w:World} (r:Nat) (c:List Nat) {v:Value} {sz:Nat} {rows:Rows} {p:Path} {v':Value} {sz':Nat} {rows':Rows} (h:walk w v sz (Xc1 r c rows) p=some (v',sz',rows')) :
 ∃ rows'',walk w v sz rows p=some (v',sz',rows'')∧rows''.length=rows'.length:=by
 cases p with
 | nil =>
   simp only [walk,Option.some.injEq,Prod.mk.injEq] at h
   obtain ⟨rfl,rfl,rfl⟩:=h
   exact ⟨_,rfl,by simp [Xc1]⟩
 | cons q p =>
   obtain ⟨i,j⟩:=q
   simp only [walk] at h
   split at h
   ·split at h
    ·cases h
    ·rename_i row h1
     split at h
     ·rename_i sz1 rows1 h2
      simp only [Xc1,List.getElem?_map,Option.map_eq_some_iff] at h1
      obtain ⟨row0,h3,rfl⟩:=h1
      simp only [List.getElem?_map,Option.map_eq_some_iff] at h2
      obtain ⟨a,h4,h5⟩:=h2
      have h6:a=.lst sz1 rows1:=by
       cases a <;> simp only [kV1,kV0] at h5 <;> first | exact h5 | (split at h5 <;> first | cases h5 | (split at h5 <;> cases h5)) | cases h5
      subst h6
      exact ⟨rows',by simp only [walk,h3,h4];exact h,rfl⟩
     ·cases h
   ·cases h
theorem Xk0 {w:World} (r:Nat) (c:List Nat) {G:List Value} {rows:Rows} {p:Path} {v':Value} {sz':Nat} {rows':Rows} (h:Uu w G (Xc1 r c rows) p=some (v',sz',rows')) :
 Uu w G rows p=some (v',sz',rows'):=by
 cases p with
 | nil=>simp [Uu] at h
 | cons q p =>
   obtain ⟨i,j⟩:=q
   simp only [Uu] at h
   split at h
   ·cases h
   ·rename_i row h1
    split at h
    ·rename_i sz1 rows1 h2
     simp only [Xc1,List.getElem?_map,Option.map_eq_some_iff] at h1
     obtain ⟨row0,h3,rfl⟩:=h1
     simp only [List.getElem?_map,Option.map_eq_some_iff] at h2
     obtain ⟨a,h4,h5⟩:=h2
     have h6:a=.lst sz1 rows1:=by
      cases a <;> simp only [kV1,kV0] at h5 <;> first | exact h5 | (split at h5 <;> first | cases h5 | (split at h5 <;> cases h5)) | cases h5
     subst h6
     simp only [Uu,h3,h4]
     exact h
    ·cases h
theorem Xrf (r:Nat) (c:List Nat) (x:Root):kRt r c x={x with rows:=if x.box then Xc1 r c x.rows else x.rows}:=by
 unfold kRt
 cases x with
 | mk ro virt box sz rows=>cases box <;> rfl
theorem Less.kill {w:World} {h:Heap} {g:Gh} (r:Nat) (c:List Nat):Less w h g (kHp r c h) g:=by
 refine ⟨fun r' q v sz rows' hh=>?_,fun r' x hx hr=>⟨⟨kRt r c x,by rw [Uy,hx];rfl,by rw [(Ql r c x).1];exact hr⟩,fun q v sz rows hh=>Xb3 r c r' q v sz rows trivial hh⟩,fun r' x' hx=>?_⟩
 ·obtain ⟨x',hx',_⟩:=Yr hh
  rw [Uy] at hx'
  cases hx:h[r']?.join with
  | none=>rw [hx] at hx';cases hx'
  | some x =>
    rw [Y2 (x:=kRt r c x) (by rw [Uy,hx];rfl)] at hh
    rw [Y2 hx]
    rw [Xrf] at hh
    simp only at hh
    cases hb:x.box with
    | false=>simp only [hb] at hh;exact ⟨rows',hh,rfl⟩
    | true =>
      simp only [hb,if_true] at hh
      cases hv:x.virt with
      | false=>simp only [hv] at hh ⊢;exact Xma r c hh
      | true=>simp only [hv] at hh ⊢;exact ⟨rows',Xk0 r c hh,rfl⟩
 ·rw [Uy] at hx
  cases h0:h[r']?.join with
  | none=>rw [h0] at hx;cases hx
  | some x =>
    rw [h0] at hx
    cases hx
    obtain ⟨f1,f2,f3,f4⟩:=Ql r c x
    exact ⟨x,rfl,f1.symm,f2.symm,f3.symm,fun _ h=>h⟩
theorem Xwu {p:Path} {sz:Nat} {rows:Rows} {sz':Nat} {rows':Rows} {i j:Nat} {row:List AV} {szt:Nat} {t:Rows}
 (hp:resR p sz rows=some (sz',rows')) (hi:rows'[i]?=some row) (hj:row[j]?=some (.lst szt t)):resR (p++[(i,j)]) sz rows=some (szt,t):=by
 induction p generalizing sz rows with
 | nil =>
   simp only [resR,Option.some.injEq,Prod.mk.injEq] at hp
   obtain ⟨rfl,rfl⟩:=hp
   simp only [List.nil_append,resR,hi,hj]
 | cons q p ih =>
   obtain ⟨i0,j0⟩:=q
   simp only [resR] at hp
   split at hp
   ·cases hp
   rename_i row0 h1
   split at hp
   ·rename_i sz1 rows1 h2
    simp only [List.cons_append,resR,h1,h2]
    exact ih hp
   ·cases hp
structure Took (w:World) (wr:Wrs) (ts:List (List Value)) (tm:List Value) (st:St) (g:Gh) (r:Nat) (p:Path) (v:Value) (sz:Nat) (rows:Rows) (S:BS) (st':St) (g':Gh):Prop where
 at_:Yq w st.heap g r p=some (v,sz,rows)
 good:Good w wr ts tm st' g'
 tree:TR w true (Kr w wr false) S v (.lst sz rows)
 was:∃ x,st.heap[r]?.join=some x∧x.ro=false∧∀ k,S k→g.F r k
 apart:∀ k,S k→k<w.heap.size∧∀ r' x',st'.heap[r']?.join=some x'→¬g'.F r' k
 less:Less w st.heap g st'.heap g'
theorem W3 {w:World} {wr:Wrs} {ts:List (List Value)} {tm:List Value} {st:St} {g:Gh} {r:Nat} {p:Path} {k:Nat→Rows→St→R} {res:Res}
 (h:Xeq st r p k=some res) (G:Good w wr ts tm st g):∃ v sz rows S st' g',k sz rows st'=some res∧Took w wr ts tm st g r p v sz rows S st' g':=by
 unfold Xeq at h
 obtain ⟨x,hx,h⟩:=Ug h
 have hx:st.heap[r]?.join=some x:=by rw [hx];rfl
 obtain ⟨ro,virt,box,sz0,rows0⟩:=x
 simp only at h
 cases ro with
 | true=>cases h
 | false =>
 simp only at h
 cases p with
 | nil =>
   simp only at h
   cases virt with
   | true=>cases h
   | false =>
   cases box with
   | true=>cases h
   | false =>
   simp only at h
   have h:=Xe8 h
   rw [Xlf] at h
   have hR:=G.rel.root r _ hx
   simp only [Zu,Bool.not_false] at hR
   obtain ⟨G1,hs⟩:=G.kill r []
   have hnt:∀ r' q,Ww r [] r' q→r'≠r:=fun r' q hn e=>by subst e;simp [Ww,thru,pre] at hn
   have hx1:(kHp r [] st.heap)[r]?.join=some ⟨false,false,false,sz0,rows0⟩:=by rw [Uy,hx];rfl
   have eH:kHp r [] (put st.heap r none)=put (kHp r [] st.heap) r none:=Xp2 _ _ _ _ _
   let g':Gh:=⟨g.ρ,g.G,fun r'=>if r'=r then (fun _=>False) else g.F r'⟩
   have keeps:Vf (Ww r []) w (kHp r [] st.heap) g w (put (kHp r [] st.heap) r none) g':=by
    intro r' q v s t hP hq
    exact ⟨t,(Qh (h:=kHp r [] st.heap) (by rw [Wv,if_neg (hnt _ _ hP)]) q).trans hq,rfl⟩
   have rel:Rel w wr (put (kHp r [] st.heap) r none) g' :=
    G1.rel.change (r:=r) (X:=none) hs.2.2 keeps (fun r'=>Wv _ _ _ _) (Nat.le_refl _) (fun _ _ _ _ _ _=>rfl) (fun r' e=>⟨rfl,rfl,by simp [g',e]⟩) (fun _ h=>by cases h) (fun _ h=>by cases h) (fun _ h=>by cases h)
   have less:Less w (kHp r [] st.heap) g (put (kHp r [] st.heap) r none) g':=by
    refine ⟨fun r' q v s t hq=>?_,fun r' x hx' hr=>?_,fun r' x' hx'=>?_⟩
    ·by_cases e:r'=r
     ·subst e
      simp [Yq,Wv] at hq
     ·exact ⟨t,(Qh (h:=kHp r [] st.heap) (h':=put (kHp r [] st.heap) r none) (by rw [Wv,if_neg e]) q).symm.trans hq,rfl⟩
    ·have e:r'≠r:=fun e=>by subst e;rw [hx1] at hx';cases hx';cases hr
     exact ⟨⟨x,by rw [Wv,if_neg e];exact hx',hr⟩,fun q v s t hq=>⟨t,(Qh (h:=kHp r [] st.heap) (by rw [Wv,if_neg e]) q).trans hq,rfl⟩⟩
    ·rw [Wv] at hx'
     by_cases e:r'=r
     ·rw [if_pos e] at hx';cases hx'
     ·rw [if_neg e] at hx'
      exact ⟨x',hx',rfl,rfl,rfl,fun k hk=>by simpa [g',e] using hk⟩
   refine ⟨g.ρ r,sz0,rows0,g.F r,_,g',h,by rw [Y2 hx];rfl,?_,hR,⟨_,hx,rfl,fun _ h=>h⟩,fun k hk=>⟨G.rel.low r _ k hx hk,fun r' x' hx' hF=>?_⟩,?_⟩
   ·simp only [kSt,eH]
    exact G1.keep hs keeps rel
   ·simp only [kSt,eH] at hx'
    rw [Wv] at hx'
    by_cases e:r'=r
    ·rw [if_pos e] at hx';cases hx'
    ·rw [if_neg e,Uy] at hx'
     cases h0:st.heap[r']?.join with
     | none=>rw [h0] at hx';cases hx'
     | some x0 =>
       simp only [g',if_neg e] at hF
       exact G.rel.sep r _ r' x0 k hx h0 (Ne.symm e) rfl hk hF
   ·simp only [kSt,eH]
    exact (Less.kill r []).trans less
 | cons q0 p0 =>
   simp only at h
   obtain ⟨p',i,j,szt,sz',rows',row,t,ep,hp0,hi,hj,h⟩:=Xwo h
   have h:=Xe8 h
   rw [X04,Xlf] at h
   have hp:∃ sz',resR p' sz0 rows0=some (sz',rows'):=by
    cases p' with
    | nil=>simp only [resR,Option.some.injEq,Prod.mk.injEq] at hp0 ⊢;exact ⟨sz0,rfl,hp0.2⟩
    | cons a b=>exact ⟨sz',hp0⟩
   obtain ⟨sz',hp⟩:=hp
   rw [ep] at h ⊢
   obtain ⟨c,hc⟩:∃ c,c=(p'++[(i,j)]).map Prod.snd:=⟨_,rfl⟩
   rw [←hc] at h
   obtain ⟨G1,hs⟩:=G.kill r c
   have hx1:(kHp r c st.heap)[r]?.join=some (kRt r c ⟨false,virt,box,sz0,rows0⟩):=by rw [Uy,hx];rfl
   have hthru:∀ q,Ww r c r q→¬(p'++[(i,j)] <+: q):=fun q hn=>by rw [hc] at hn;exact Xl4 hn
   have hk:∃ rows1 row1,resR p' (kRt r c ⟨false,virt,box,sz0,rows0⟩).sz (kRt r c ⟨false,virt,box,sz0,rows0⟩).rows=some (sz',rows1)∧rows1[i]?=some row1∧row1[j]?=some (.lst szt t) ∧
    kHp r c (put st.heap r (some ⟨false,virt,box,sz0,updR p' rows0 (rows'.set i (row.set j .undef))⟩)) =
     upd (kHp r c st.heap) r (kRt r c ⟨false,virt,box,sz0,rows0⟩) p' (rows1.set i (row1.set j .undef)):=by
    cases box with
    | false=>exact ⟨rows',row,hp,hi,hj,by rw [Xp2];rfl⟩
    | true =>
      obtain ⟨rows1,row1,e1,e2,e3,e4⟩:=Xwt r c hp hi hj
      refine ⟨rows1,row1,e1,e2,e3,?_⟩
      rw [Xp2,upd]
      simp only [Option.map_some,Xrf,if_true,e4]
   obtain ⟨rows1,row1,e1,e2,e3,e4⟩:=hk
   have hro1:(kRt r c ⟨false,virt,box,sz0,rows0⟩).ro=false:=(Ql r c _).1
   obtain ⟨S2,vt,k1,k2,k3,k4⟩:=G1.rel.pull hs.2.2 hx1 hro1 e1 e2 e3 hthru
   obtain ⟨w1,w2⟩:=Xl8 (w:=w) (g:=g) (P:=Ww r c) hx1 e1 e2 e3 hthru S2
   have less:Less w (kHp r c st.heap) g (upd (kHp r c st.heap) r (kRt r c ⟨false,virt,box,sz0,rows0⟩) p' (rows1.set i (row1.set j .undef))) (gCut g r S2):=by
    refine ⟨fun r' q v s t hq=>w2 r' q v s t hq,fun r' x hx' hr=>?_,fun r' x' hx'=>?_⟩
    ·have e:r'≠r:=fun e=>by subst e;rw [hx1] at hx';cases hx';rw [hro1] at hr;cases hr
     exact ⟨⟨x,by rw [Qe,if_neg e];exact hx',hr⟩,fun q v s t hq=>⟨t,(Qh (h:=kHp r c st.heap) (by rw [Qe,if_neg e]) q).trans hq,rfl⟩⟩
    ·rw [Qe] at hx'
     by_cases e:r'=r
     ·subst e
      rw [if_pos rfl] at hx'
      cases hx'
      exact ⟨_,hx1,rfl,rfl,rfl,fun k hk=>by simp only [gCut,if_true] at hk;exact hk.1⟩
     ·rw [if_neg e] at hx'
      exact ⟨x',hx',rfl,rfl,rfl,fun k hk=>by simpa [gCut,e] using hk⟩
   obtain ⟨rowsB,b1,b2⟩:=(Less.kill (w:=w) (h:=st.heap) (g:=g) r c).back _ _ _ _ _ k1
   have hwt:Yq w st.heap g r (p'++[(i,j)])=some (vt,szt,t):=by
    obtain ⟨x0,y1,y2,_⟩:=Yr b1
    rw [hx] at y1
    cases y1
    have:=Xwu hp hi hj
    rw [this] at y2
    cases y2
    exact b1
   refine ⟨vt,szt,t,S2,_,gCut g r S2,h,hwt,?_,k2,⟨_,hx,rfl,k3⟩,fun k hk=>⟨G.rel.low r _ k hx (k3 k hk),fun r' x' hx' hF=>?_⟩,?_⟩
   ·simp only [kSt,e4]
    exact G1.keep hs w1 k4
   ·simp only [kSt,e4] at hx'
    by_cases e:r'=r
    ·subst e
     simp only [gCut,if_true] at hF
     exact hF.2 hk
    ·rw [Qe,if_neg e,Uy] at hx'
     cases h0:st.heap[r']?.join with
     | none=>rw [h0] at hx';cases hx'
     | some x0 =>
       simp only [gCut,if_neg e] at hF
       exact G.rel.sep r _ r' x0 k hx h0 (Ne.symm e) rfl (k3 k hk) hF
   ·simp only [kSt,e4]
    exact (Less.kill r c).trans less
end Go.Abs
namespace Go.Abs
theorem TR.sub {w:World} {own:Bool} {K:CS} {S:BS} {v0 v:Value} {sz off len:Nat} {rows:Rows} (h:TR w own K S v0 (.lst sz rows)) (hl:off+len≤rows.length) (hs:SubV v0 off sz len v) :
 TR w own K S v (.lst sz ((rows.drop off).take len)):=by
 rcases hs with ⟨b,o,n,c,c',rfl,rfl,h1,h2⟩ | ⟨rfl,a,rfl⟩
 ·have hlen:((rows.drop off).take len).length=len:=by simp;omega
  rcases h.lst_inv with ⟨rfl,a,hv⟩ | ⟨b',o',c2,cs,e,fz,f,hv,hb,hs,hc,hlr,hK,hS,hf,hd,hcell⟩
  ·simp only [Value.slice.injEq] at hv
   obtain ⟨_,rfl,rfl⟩:=hv
   obtain rfl:len=0:=by simp at hl;omega
   obtain rfl:c'=0:=by omega
   simp only [List.take_zero]
   exact .nil
  ·simp only [Value.slice.injEq,Option.some.injEq,Addr.mk.injEq] at hv
   obtain ⟨⟨rfl,rfl,_⟩,rfl,rfl⟩:=hv
   have hm:off*sz+c'*sz≤c*sz:=by rw [←Nat.add_mul];exact Nat.mul_le_mul_right _ h2
   by_cases hc0:c'=0
   ·subst hc0
    obtain rfl:len=0:=by omega
    simp only [List.take_zero]
    exact .nil
   have hpos:0<c'*sz:=Nat.mul_pos (by omega) (Nat.pos_of_ne_zero fun e=>by have:=hK.1;rw [e] at this;simp at this)
   have:=TR.lst (w:=w) (own:=own) (K:=K) (S:=S) (b:=b) (o:=o+off*sz) (c:=c') (cs:=cs) (e:=e) (fz:=fz) (sz:=sz) (rows:=(rows.drop off).take len) (fun i j=>f (off+i) j) hb (by omega) (by omega)
    (fun row hr=>hlr row (List.mem_of_mem_drop (List.mem_of_mem_take hr))) ⟨hpos,fun q q1 q2=>hK.2 q (by omega) (by omega)⟩ hS (fun i j k hk=>hf _ _ k hk)
    (fun ho=>⟨fun i j=>(hd ho).1 _ j,fun i j i' j' k k1 k2=>by have:=(hd ho).2 _ _ _ _ k k1 k2;omega⟩)
    (fun i j row a hr ha=>by
     have hi:i<len:=by rw [←hlen];exact (List.getElem?_eq_some_iff.1 hr).1
     rw [List.getElem?_take_of_lt hi,List.getElem?_drop] at hr
     rw [show o+off*sz+i*sz+j=o+(off+i)*sz+j by rw [Nat.add_mul];omega]
     exact hcell _ j row a hr ha)
   rw [hlen] at this
   exact this
 ·simp only [List.take_zero]
  exact .nil
theorem Xhy {h:Heap} {v:AV} {k:Nat→R} {res:Res} {r:Nat} {p:Path} {o l:Nat} (hv:v=.ref r p∨v=.sub r p o l) (hh:code h v k=some res) :
 ∃ x,h[r]?.join=some x∧((x.ro=true∧k 0=some res)∨(x.ro=false∧(k 1=some res∨k 2=some res))):=by
 rcases hv with rfl | rfl
 all_goals
  simp only [code] at hh
  obtain ⟨x,hx,hh⟩:=Ug hh
  obtain ⟨ro,virt,box,sz,rows⟩:=x
  refine ⟨_,by rw [hx];rfl,?_⟩
  cases ro with
  | true=>exact .inl ⟨rfl,hh⟩
  | false =>
    refine .inr ⟨rfl,?_⟩
    cases p with
    | nil=>exact .inl hh
    | cons a p=>cases virt with
      | true=>exact .inl hh
      | false=>exact .inr hh
theorem Less.keepRO {w:World} {h h':Heap} {g g':Gh} (L:Less w h g h' g') {r:Nat} {x:Root} (hx:h[r]?.join=some x) (hr:x.ro=true) {v:Value} {a:AV} {p:Path} {o l:Nat}
 (ha:a=.ref r p∨a=.sub r p o l) (H:VR w h g v a):VR w h' g' v a:=by
 obtain ⟨_,hk⟩:=L.ro r x hx hr
 rcases ha with rfl | rfl
 ·cases H with
  | ref h1=>obtain ⟨rows',h2,h3⟩:=hk _ _ _ _ h1;exact .ref h2
 ·cases H with
  | sub h1 hl h3=>obtain ⟨rows',h2,h4⟩:=hk _ _ _ _ h1;exact .sub h2 (by rw [h4];exact hl) h3
theorem TR.one {w:World} {own:Bool} {K:CS} {S:BS} {v:Value} {a:AV} (h:TR w own K S v a) (ha:a≠.undef):v.oneCell'=true:=by
 cases h <;> first | rfl | exact absurd rfl ha
theorem Rel.slice_of {w:World} {wr:Wrs} {h:Heap} {g:Gh} (R:Rel w wr h g) {r:Nat} {p:Path} {v:Value} {sz:Nat} {rows:Rows} (hh:Yq w h g r p=some (v,sz,rows)) :
 ∃ a n c,v=.slice a n c∧n=rows.length:=by
 obtain ⟨x,hx,hp,hv⟩:=Yr hh
 obtain ⟨v',hw,hc⟩:=R.walks hx hp hv
 rw [hh] at hw
 cases hw
 rcases hc with ⟨rfl,hb⟩ | ⟨S,ht,_⟩
 ·have hR:=R.root r x hx
  unfold Zu at hR
  cases hvt:x.virt with
  | true=>exact absurd rfl (hv hvt)
  | false =>
    simp only [hvt,hb] at hR
    obtain ⟨b,o,cs,e,fz,f,h1,_⟩:=hR
    rw [Y2 hx] at hh
    simp only [hvt,walk,Option.some.injEq,Prod.mk.injEq] at hh
    obtain ⟨rfl,rfl,rfl⟩:=hh
    exact ⟨_,_,_,h1,rfl⟩
 ·rcases ht.lst_inv with ⟨rfl,a,rfl⟩ | ⟨b,o,c,cs,e,fz,f,rfl,_⟩
  ·exact ⟨_,_,_,rfl,rfl⟩
  ·exact ⟨_,_,_,rfl,rfl⟩
theorem SubV.one {v0 v:Value} {off sz len:Nat} (h:SubV v0 off sz len v):∃ a c,v=.slice a len c:=by
 rcases h with ⟨b,o,n,c,c',rfl,rfl,_⟩ | ⟨rfl,a,rfl⟩
 ·exact ⟨_,_,rfl⟩
 ·exact ⟨_,_,rfl⟩
def oneA (a:AV):Bool:=match a with
 | .agg _ | .tup _ | .undef | .pv _=>false
 | _=>true
theorem Rel.one_of {w:World} {wr:Wrs} {h:Heap} {g:Gh} (R:Rel w wr h g) {u:Value} {a:AV} (H:VR w h g u a) (ha:oneA a=true):u.oneCell'=true:=by
 cases H with
 | ref h1=>obtain ⟨_,_,_,rfl,_⟩:=R.slice_of h1;rfl
 | sub h1 hl h2=>obtain ⟨_,_,rfl⟩:=h2.one;rfl
 | undef=>simp [oneA] at ha
 | agg=>simp [oneA] at ha
 | tup=>simp [oneA] at ha
 | _=>rfl
structure In1 (w:World) (wr:Wrs) (ts:List (List Value)) (tm:List Value) (ex:Bool) (u:Value) (st:St) (g:Gh) (c:AV) (S:BS) (st':St) (g':Gh):Prop where
 good:Good w wr ts tm st' g'
 less:Less w st.heap g st'.heap g'
 tree:isX c=false→TR w true (Kr w wr false) S u c
 name:isX c=true→ex=true∧VR w st'.heap g' u c∧∃ r p o l x,(c=.ref r p∨c=.sub r p o l)∧st'.heap[r]?.join=some x∧x.ro=true
 apart:∀ k,S k→k<w.heap.size∧∀ r' x',st'.heap[r']?.join=some x'→¬g'.F r' k
 was:∀ k,S k→∃ r x,st.heap[r]?.join=some x∧x.ro=false∧g.F r k
 one:u.oneCell'=true
theorem In1.leaf {w:World} {wr:Wrs} {ts:List (List Value)} {tm:List Value} {ex:Bool} {u:Value} {st:St} {g:Gh} {c:AV} (G:Good w wr ts tm st g)
 (h:∀ S,TR w true (Kr w wr false) S u c) (hx:isX c=false) (h1:u.oneCell'=true:=by rfl):In1 w wr ts tm ex u st g c (fun _=>False) st g :=
 ⟨G,.refl,fun _=>h _,fun h=>(by rw [hx] at h;cases h),fun _ h=>h.elim,fun _ h=>h.elim,h1⟩
theorem Xp3 {w:World} {wr:Wrs} {ts:List (List Value)} {tm:List Value} {ex:Bool} {esz:Nat} {u:Value} {a:AV} {st:St} {g:Gh} {h0:Heap} {g0:Gh} {k:AV→St→R} {res:Res}
 (h:Xb9 false ex esz a st k=some res) (G:Good w wr ts tm st g) (L:Less w h0 g0 st.heap g) (H:VR w h0 g0 u a) :
 ∃ c S st' g',k c st'=some res∧In1 w wr ts tm ex u st g c S st' g':=by
 have named:∀ r p o l x,(a=.ref r p∨a=.sub r p o l)→st.heap[r]?.join=some x→x.ro=true→k a st=some res→ex=true →
  ∃ c S st' g',k c st'=some res∧In1 w wr ts tm ex u st g c S st' g':=by
  intro r p o l x ha hx hr hk hex
  obtain ⟨x0,hx0,e,_⟩:=L.flags r x hx
  refine ⟨a,fun _=>False,st,g,hk,G,.refl,fun hn=>?_,fun _=>⟨hex,L.keepRO hx0 (e.trans hr) ha H,r,p,o,l,x,ha,hx,hr⟩,fun _ h=>h.elim,fun _ h=>h.elim,G.rel.one_of (L.keepRO hx0 (e.trans hr) ha H) (by rcases ha with rfl | rfl <;> rfl)⟩
  rcases ha with rfl | rfl <;> simp [isX] at hn
 cases a with
 | bool b=>cases H;exact ⟨_,_,_,_,h,.leaf G (fun _=>.bool b) rfl⟩
 | int kd n=>cases H;exact ⟨_,_,_,_,h,.leaf G (fun _=>.int kd n) rfl⟩
 | str s=>cases H;exact ⟨_,_,_,_,h,.leaf G (fun _=>.str s) rfl⟩
 | nilp=>cases H;exact ⟨_,_,_,_,h,.leaf G (fun _=>.nilp) rfl⟩
 | nilf=>cases H;exact ⟨_,_,_,_,h,.leaf G (fun _=>.nilf) rfl⟩
 | emp=>cases H;exact ⟨_,_,_,_,h,.leaf G (fun _=>.nil) rfl⟩
 | lst sz rows =>
   cases H
   exact ⟨_,_,_,_,h,.leaf G (fun _=>.nil) rfl⟩
 | ref r p =>
   simp only [Xb9] at h
   obtain ⟨x,hx,h⟩:=Xhy (o:=0) (l:=0) (.inl rfl) h
   rcases h with ⟨hr,h⟩ | ⟨hr,h | h⟩
   ·cases ex with
    | true=>exact named r p 0 0 x (.inl rfl) hx hr h rfl
    | false=>simp at h
   ·simp only at h
    obtain ⟨v,sz,rows,S,st',g',hk,T⟩:=W3 h G
    have hu:u=v:=by
     cases L.WR H.weak ⟨_,T.at_⟩ with
     | ref h1=>rw [T.at_] at h1;cases h1;rfl
    subst hu
    obtain ⟨x',hx',hr',hw⟩:=T.was
    exact ⟨_,S,st',g',hk,T.good,T.less,fun _=>T.tree,fun h=>(by simp [isX] at h),T.apart,fun k hk=>⟨r,x',hx',hr',hw k hk⟩,T.tree.one (by simp)⟩
   ·simp only at h
    obtain ⟨v,sz,rows,S,st',g',hk,T⟩:=W3 h G
    have hu:u=v:=by
     cases L.WR H.weak ⟨_,T.at_⟩ with
     | ref h1=>rw [T.at_] at h1;cases h1;rfl
    subst hu
    obtain ⟨x',hx',hr',hw⟩:=T.was
    exact ⟨_,S,st',g',hk,T.good,T.less,fun _=>T.tree,fun h=>(by simp [isX] at h),T.apart,fun k hk=>⟨r,x',hx',hr',hw k hk⟩,T.tree.one (by simp)⟩
 | sub r p off len =>
   simp only [Xb9] at h
   obtain ⟨x,hx,h⟩:=Xhy (o:=off) (l:=len) (.inr rfl) h
   rcases h with ⟨hr,h⟩ | ⟨hr,h | h⟩
   ·cases ex with
    | true=>exact named r p off len x (.inr rfl) hx hr h rfl
    | false=>simp at h
   ·simp only at h
    obtain ⟨v,sz,rows,S,st',g',hk,T⟩:=W3 h G
    have hu:off+len≤rows.length∧SubV v off sz len u:=by
     cases L.WR H.weak ⟨_,T.at_⟩ with
     | sub h1 hl h2=>rw [T.at_] at h1;cases h1;exact ⟨hl,h2⟩
    obtain ⟨x',hx',hr',hw⟩:=T.was
    exact ⟨_,S,st',g',hk,T.good,T.less,fun _=>T.tree.sub hu.1 hu.2,fun h=>(by simp [isX] at h),T.apart,fun k hk=>⟨r,x',hx',hr',hw k hk⟩,(T.tree.sub hu.1 hu.2).one (by simp)⟩
   ·simp only at h
    obtain ⟨v,sz,rows,S,st',g',hk,T⟩:=W3 h G
    have hu:off+len≤rows.length∧SubV v off sz len u:=by
     cases L.WR H.weak ⟨_,T.at_⟩ with
     | sub h1 hl h2=>rw [T.at_] at h1;cases h1;exact ⟨hl,h2⟩
    obtain ⟨x',hx',hr',hw⟩:=T.was
    exact ⟨_,S,st',g',hk,T.good,T.less,fun _=>T.tree.sub hu.1 hu.2,fun h=>(by simp [isX] at h),T.apart,fun k hk=>⟨r,x',hx',hr',hw k hk⟩,(T.tree.sub hu.1 hu.2).one (by simp)⟩
 | _=>simp [Xb9] at h
theorem Hand.less {w:World} {wr:Wrs} {h h':Heap} {g g':Gh} {ex:Bool} (L:Less w h g h' g') {u:Value} {c:AV} {S:BS} {us:List Value} {l:List AV} {Ss:List BS} (h1:isX c=false→TR w true (Kr w wr false) S u c)
 (h2:isX c=true→ex=true∧VR w h g u c∧∃ r p o l x,(c=.ref r p∨c=.sub r p o l)∧h[r]?.join=some x∧x.ro=true)
 (h3:∀ k,S k→k<w.heap.size∧∀ r' x',h[r']?.join=some x'→¬g.F r' k) (h4:∀ S'∈Ss,∀ k,S' k→∃ r x,h[r]?.join=some x∧x.ro=false∧g.F r k) (h5:Hand w wr h' g' ex us l Ss) :
 Hand w wr h' g' ex (u::us) (c::l) (S::Ss):=by
 refine .cons h1 (fun hx=>?_) (fun k hk=>⟨(h3 k hk).1,fun r' x' hx' hF=>?_⟩) (fun S' hS' k hk hk'=>?_) h5
 ·obtain ⟨e1,e2,r,p,o,l,x,e3,e4,e5⟩:=h2 hx
  exact ⟨e1,L.keepRO e4 e5 e3 e2⟩
 ·obtain ⟨x,hx,_,_,_,hf⟩:=L.flags r' x' hx'
  exact (h3 k hk).2 r' x hx (hf k hF)
 ·obtain ⟨r,x,hx,_,hF⟩:=h4 S' hS' k hk'
  exact (h3 k hk).2 r x hx hF
structure Ins (w:World) (wr:Wrs) (ts:List (List Value)) (tm:List Value) (ex:Bool) (us:List Value) (st:St) (g:Gh) (cs:List AV) (Ss:List BS) (st':St) (g':Gh):Prop where
 good:Good w wr ts tm st' g'
 less:Less w st.heap g st'.heap g'
 hand:Hand w wr st'.heap g' ex us cs Ss
 was:∀ S∈Ss,∀ k,S k→∃ r x,st.heap[r]?.join=some x∧x.ro=false∧g.F r k
 one:∀ u∈us,u.oneCell'=true
theorem Q1 {w:World} {wr:Wrs} {ts:List (List Value)} {tm:List Value} {ex:Bool} {esz:Nat} {h0:Heap} {g0:Gh} {res:Res} :
 ∀ {l:List AV} {us:List Value} {st:St} {g:Gh} {k:List AV→St→R},U9 false ex esz l st k=some res→Good w wr ts tm st g→Less w h0 g0 st.heap g→VRs w h0 g0 us l →
 ∃ cs Ss st' g',k cs st'=some res∧Ins w wr ts tm ex us st g cs Ss st' g'
 | [],_,st,g,k,h,G,_,.nil=>⟨[],[],st,g,h,G,.refl,.nil,fun _ h=>(by simp at h),fun _ h=>(by simp at h)⟩
 | a::l,_,st,g,k,h,G,L,.cons (v:=u) (vs:=us) H1 H2=>by
   simp only [U9] at h
   obtain ⟨c,S,st1,g1,h,I1⟩:=Xp3 h G L H1
   obtain ⟨cs,Ss,st2,g2,h,I2⟩:=Q1 h I1.good (L.trans I1.less) H2
   refine ⟨c::cs,S::Ss,st2,g2,h,I2.good,I1.less.trans I2.less,Hand.less I2.less I1.tree I1.name I1.apart I2.was I2.hand,fun S' hS' k hk=>?_,fun u' hu'=>by
    rcases List.mem_cons.1 hu' with rfl | hu'
    ·exact I1.one
    ·exact I2.one u' hu'⟩
   rcases List.mem_cons.1 hS' with rfl | hS'
   ·exact I1.was k hk
   ·obtain ⟨r,x,hx,hr,hF⟩:=I2.was S' hS' k hk
    obtain ⟨x0,hx0,e,_,_,hf⟩:=I1.less.flags r x hx
    exact ⟨r,x0,hx0,e.trans hr,hf k hF⟩
theorem Xp4 {w:World} {wr:Wrs} {ex:Bool} {esz:Nat} {u:Value} {a:AV} {st:St} {g:Gh} {k:AV→St→R} {res:Res}
 (h:Xb9 true ex esz a st k=some res) (H:VR w st.heap g u a) :
 ∃ c,k c st=some res∧(isX c=false→∀ S,TR w true (Kr w wr false) S u c)∧(isX c=true→ex=true∧VR w st.heap g u c)∧oneA a=true:=by
 have leaf:oneA a=true→∀ c,k c st=some res→isX c=false→(∀ S,TR w true (Kr w wr false) S u c)→∃ c,k c st=some res∧(isX c=false→∀ S,TR w true (Kr w wr false) S u c)∧(isX c=true→ex=true∧VR w st.heap g u c)∧oneA a=true :=
  fun ho c h hx ht=>⟨c,h,fun _=>ht,fun h=>(by rw [hx] at h;cases h),ho⟩
 have name:oneA a=true→∀ c,k c st=some res→isX c=true→ex=true→VR w st.heap g u c→∃ c,k c st=some res∧(isX c=false→∀ S,TR w true (Kr w wr false) S u c)∧(isX c=true→ex=true∧VR w st.heap g u c)∧oneA a=true :=
  fun ho c h hx he hv=>⟨c,h,fun h=>(by rw [hx] at h;cases h),fun _=>⟨he,hv⟩,ho⟩
 cases a with
 | bool b=>cases H;exact leaf rfl _ h rfl fun _=>.bool b
 | int kd n=>cases H;exact leaf rfl _ h rfl fun _=>.int kd n
 | str s=>cases H;exact leaf rfl _ h rfl fun _=>.str s
 | nilp=>cases H;exact leaf rfl _ h rfl fun _=>.nilp
 | nilf=>cases H;exact leaf rfl _ h rfl fun _=>.nilf
 | emp=>cases H;exact leaf rfl _ h rfl fun _=>.nil
 | lst sz rows =>
   cases H
   exact leaf rfl _ h rfl fun _=>.nil
 | ref r p =>
   simp only [Xb9] at h
   obtain ⟨x,hx,h⟩:=Xhy (o:=0) (l:=0) (.inl rfl) h
   rcases h with ⟨hr,h⟩ | ⟨hr,h | h⟩
   ·cases ex with
    | true=>exact name rfl _ h rfl rfl H
    | false=>simp at h
   ·simp at h
   ·cases ex with
    | true=>exact name rfl _ h rfl rfl H
    | false=>simp at h
 | sub r p off len =>
   simp only [Xb9] at h
   obtain ⟨x,hx,h⟩:=Xhy (o:=off) (l:=len) (.inr rfl) h
   rcases h with ⟨hr,h⟩ | ⟨hr,h | h⟩
   ·cases ex with
    | true=>exact name rfl _ h rfl rfl H
    | false=>simp at h
   ·simp at h
   ·cases ex with
    | true=>exact name rfl _ h rfl rfl H
    | false=>simp at h
 | ptr r p i j =>
   cases ex with
   | true=>exact name rfl _ h rfl rfl H
   | false=>simp [Xb9] at h
 | fn f cs =>
   cases ex with
   | true=>exact name rfl _ h rfl rfl H
   | false=>simp [Xb9] at h
 | _=>simp [Xb9] at h
theorem Xcf {w:World} {wr:Wrs} {ts:List (List Value)} {tm:List Value} {ex:Bool} {esz:Nat} {st:St} {g:Gh} {res:Res} (G:Good w wr ts tm st g) :
 ∀ {l:List AV} {us:List Value} {k:List AV→St→R},U9 true ex esz l st k=some res→VRs w st.heap g us l →
 ∃ cs Ss,k cs st=some res∧Ins w wr ts tm ex us st g cs Ss st g
 | [],_,k,h,.nil=>⟨[],[],h,G,.refl,.nil,fun _ h=>(by simp at h),fun _ h=>(by simp at h)⟩
 | a::l,_,k,h,.cons (v:=u) (vs:=us) H1 H2=>by
   simp only [U9] at h
   obtain ⟨c,h,I1,I2,I3⟩:=Xp4 (wr:=wr) h H1
   obtain ⟨cs,Ss,h,I⟩:=Xcf G h H2
   refine ⟨c::cs,(fun _=>False)::Ss,h,G,.refl,.cons (fun hx=>I1 hx _) I2 (fun _ h=>h.elim) (fun _ _ _ h=>h.elim) I.hand,fun S' hS' k hk=>?_,fun u' hu'=>by
    rcases List.mem_cons.1 hu' with rfl | hu'
    ·exact G.rel.one_of H1 I3
    ·exact I.one u' hu'⟩
   rcases List.mem_cons.1 hS' with rfl | hS'
   ·exact hk.elim
   ·exact I.was S' hS' k hk
theorem Xp5 {h:Heap} {l:List AV} {k:Bool→R} {res:Res} (hh:Xb8 h l k=some res):∃ b,k b=some res:=by
 induction l with
 | nil=>exact ⟨_,hh⟩
 | cons v l ih =>
   simp only [Xb8] at hh
   have:∃ n,(match n with | 0=>Xb8 h l k | 1=>Xb8 h l k | _=>k true)=some res:=by
    cases v <;> simp only [code] at hh
    case ref r p =>
     obtain ⟨x,_,hh⟩:=Ug hh
     obtain ⟨ro,virt,box,sz,rows⟩:=x
     cases ro
     ·cases p
      ·exact ⟨1,hh⟩
      ·cases virt
       ·exact ⟨2,hh⟩
       ·exact ⟨1,hh⟩
     ·exact ⟨0,hh⟩
    case sub r p _ _ =>
     obtain ⟨x,_,hh⟩:=Ug hh
     obtain ⟨ro,virt,box,sz,rows⟩:=x
     cases ro
     ·cases p
      ·exact ⟨1,hh⟩
      ·cases virt
       ·exact ⟨2,hh⟩
       ·exact ⟨1,hh⟩
     ·exact ⟨0,hh⟩
    case ptr=>exact ⟨2,hh⟩
    case fn=>exact ⟨2,hh⟩
    all_goals exact ⟨0,hh⟩
   obtain ⟨n,hn⟩:=this
   match n,hn with
   | 0,hn=>exact ih hn
   | 1,hn=>exact ih hn
   | n+2,hn=>exact ⟨_,hn⟩
theorem Xde {w:World} {wr:Wrs} {ts:List (List Value)} {tm:List Value} {mv ex:Bool} {esz:Nat} {st:St} {g:Gh} {res:Res} {l:List AV} {us:List Value} {k:List AV→St→R}
 (h:Xd6 mv ex esz l st k=some res) (G:Good w wr ts tm st g) (H:VRs w st.heap g us l):∃ cs Ss st' g',k cs st'=some res∧Ins w wr ts tm ex us st g cs Ss st' g':=by
 unfold Xd6 at h
 cases ex with
 | false=>exact Q1 h G .refl H
 | true =>
   cases mv with
   | true=>exact Q1 h G .refl H
   | false =>
   simp only at h
   obtain ⟨b,h⟩:=Xp5 h
   cases b with
   | true =>
     obtain ⟨cs,Ss,h,I⟩:=Xcf G h H
     exact ⟨cs,Ss,st,g,h,I⟩
   | false=>exact Q1 h G .refl H
end Go.Abs
