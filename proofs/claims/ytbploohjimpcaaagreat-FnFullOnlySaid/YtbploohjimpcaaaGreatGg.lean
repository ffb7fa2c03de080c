/- What the program's functions answer (Gg): no condition. -/
import Derived.Test.YtbploohjimpcaaaGreatGd
set_option linter.unusedVariables false
set_option linter.unusedSimpArgs false
namespace Go.Proofs.YtbploohjimpcaaaGreat.A
open Go Go.Abs
set_option maxRecDepth 100000
noncomputable section
abbrev Sta.th (s:Sta) (p:Nat):Th:=s.ths.getD p default
abbrev thR (k:Int) (t:Th):List AV:=[.int .i64 k,.int .i64 t.op.k,.int .i64 t.op.key,.int .i64 t.op.v,.int .i64 t.res.c,.int .i64 t.res.v,.int .i64 t.snap,.int .i64 t.node,.int .i64 t.prev,.int .i64 t.curr,.int .i64 t.next,.int .i64 t.seen,.int .i64 t.stamp,.int .i64 t.pos,Xl t.found,Xl t.free,Yu t.buf,Yu t.work,Xl t.limbo]
abbrev setT (s:Sta) (p:Nat) (t:Th):Sta:={s with ths:=s.ths.set p t}
def put (s:Sta) (a v:Int):Sta:=if 0≤a∧a<(s.cells.length:Int) then {s with cells:=s.cells.set a.toNat v,changes:=if cl s a=v then s.changes else s.changes+1} else s
def ldL (xs:List Int) (a:Int):Int:=if 0≤a∧a<(xs.length:Int) then xs.getD a.toNat default else 0
def ld (s:Sta) (a:Int):Int:=ldL s.cells a
theorem Xfw {s:Sta} {a:Int}:ld s a=if 0≤a∧a<(s.cells.length:Int) then cl s a else 0:=rfl
def swB (s:Sta) (a o:Int):Bool:=decide (0≤a∧a<(s.cells.length:Int)∧cl s a=o)
def swp (s:Sta) (a o v:Int):Sta:=if swB s a o=true then put s a v else s
def annB (c:Cf) (p:Int):Int:=if Yp c=true∧0≤p∧p≤c.th - 1 then 2+p else -1
def hazB (c:Cf) (p j:Int):Int:=if Yp c=true∧(0≤p∧p≤c.th - 1)∧0≤j∧j≤1 then 2+c.th+2*p+j else -1
def fldA (s:Sta) (h f:Int):Int:=if curB s (unmk h)=true then ncB s.c (idxB (unmk h)) f else -1
def flt (s:Sta) (h:Int):Sta:=if curB s (unmk h)=true then s else {s with faults:=s.faults+1}
def mrk (h:Int):Int:=if h=0∨isH h=true∧h % 2=0 then h+1 else h
def mkH (i g:Int):Int:=if i<0∨i>62∨g<0∨g>9999 then 0 else (g*64+i+1)*2
def clr (t:Th):Th:={t with node:=0,prev:=0,curr:=0,next:=0,seen:=0,stamp:=0,pos:=0,found:=[]}
def endT (t:Th) (r:Rs):Th:={clr t with pc:=0,res:=r}
def wKey (t:Th):Int:=if t.op.k=2 then t.op.key else match t.work with
 | []=>t.op.key
 | e::_=>e.key
def lnkA (s:Sta) (t:Th):Int:=if t.prev=0 then X2 s.c (wKey t) else fldA s t.prev 2
def lnkF (s:Sta) (t:Th):Sta:=if t.prev=0 then s else flt s t.prev
def goOn (t:Th):Th:=if t.curr≠0 then {t with pc:=11} else if t.op.k=2 then {t with res:=⟨1,0⟩,pc:=20} else match t.work with
 | []=>{t with pc:=62}
 | e::w=>{t with limbo:=t.limbo++[e.h],work:=w,pc:=if w.length=0 then 62 else 60}
def fin (c:Cf) (t:Th):Th:=if (t.limbo.length:Int)≥2*c.th+c.b∨t.op.k=5∧t.limbo.length≠0 then {clr t with pc:=70} else endT t ⟨0,0⟩
def rtr (s:Sta) (b:Bool):Sta:=if b=true then s else {s with retries:=s.retries+1}
def ndB (e:Ent) (ann:List Int):Bool:=ann.any fun n=>decide (e.lo≤n)&&decide (n<e.hi)
def psB (e:Ent) (ann:List Int):Bool:=!ann.any fun n=>decide (n<e.hi)
def drpB (p key:Int) (ann:List Int) (e:Ent):Bool:=if p=1 then psB e ann else if p=2 then !ndB e ann&&(decide (key<0)||decide (key=e.key)) else !ndB e ann
def Xin (c:Cf) (t:Th):Bool:=if c.p=2 then t.buf.any fun e=>decide (e.key=t.op.key) else decide ((t.buf.length:Int)≥c.b)
def fndT (t:Th) (n:Int):List Int:=if n≠0 then t.found++[n] else t.found
def Xz (st:List Int×List Int) (h:Int):List Int×List Int:=if st.1.getD (idxB h).toNat default<9998∧st.2.length<100 then (st.1.set (idxB h).toNat (st.1.getD (idxB h).toNat default+1),st.2++[idxB h]) else st
def sk1 (s:Sta) (p:Nat) (t:Th):Sta:=setT s p {t with seen:=cl s 0,pc:=if cl s 0≥s.c.cm then 5 else 2}
def sk2 (s:Sta) (p:Nat) (t:Th):Sta:=setT (put s (annB s.c p) t.seen) p {t with pc:=3}
def sk3 (s:Sta) (p:Nat) (t:Th):Sta:=setT (rtr s (decide (cl s 0=t.seen))) p {t with pc:=if cl s 0=t.seen then 4 else 1}
def sk4 (s:Sta) (p:Nat) (t:Th):Sta:=setT (swp s 0 t.seen (t.seen+1)) p (endT {t with snap:=t.seen} ⟨0,0⟩)
def sk5 (s:Sta) (p:Nat) (t:Th):Sta:=setT (put s (annB s.c p) 0) p (endT t ⟨5,0⟩)
def sk10 (s:Sta) (p:Nat) (t:Th):Sta:=setT s p (goOn {t with prev:=0,curr:=unmk (ld s (X2 s.c (wKey t)))})
def sk11 (s:Sta) (p:Nat) (t:Th):Sta:=setT (put s (hazB s.c p 0) t.curr) p {t with pc:=12}
def sk12 (s:Sta) (p:Nat) (t:Th):Sta:=setT (rtr (lnkF s t) (decide (ld s (lnkA s t)=t.curr))) p {t with pc:=if ld s (lnkA s t)=t.curr then 13 else 10}
def sk13 (s:Sta) (p:Nat) (t:Th):Sta:=setT (flt s t.curr) p {t with next:=ld s (fldA s t.curr 2),pc:=if isMk (ld s (fldA s t.curr 2))=true then 14 else if t.op.k=2 then 16 else 15}
def sk14 (s:Sta) (p:Nat) (t:Th):Sta:=(if swB s (lnkA s t) t.curr=true then setT (put (lnkF s t) (lnkA s t) (unmk t.next)) p (goOn {t with curr:=unmk t.next}) else setT (rtr (lnkF s t) false) p {t with pc:=10})
def sk15 (s:Sta) (p:Nat) (t:Th):Sta:=setT (put s (hazB s.c p 1) t.curr) p (goOn {t with prev:=t.curr,curr:=unmk t.next})
def sk16 (s:Sta) (p:Nat) (t:Th):Sta:=setT (flt s t.curr) p {t with stamp:=ld s (fldA s t.curr 0),pc:=if ld s (fldA s t.curr 0)=0 then 17 else if ld s (fldA s t.curr 0)≤t.snap then 19 else 15}
def sk17 (s:Sta) (p:Nat) (t:Th):Sta:=setT s p {t with seen:=cl s 0,pc:=18}
def sk18 (s:Sta) (p:Nat) (t:Th):Sta:=setT (swp (flt s t.curr) (fldA s t.curr 0) 0 t.seen) p {t with pc:=16}
def sk19 (s:Sta) (p:Nat) (t:Th):Sta:=setT (flt s t.curr) p {t with res:=⟨0,ld s (fldA s t.curr 1)⟩,pc:=20}
def sk20 (s:Sta) (p:Nat) (t:Th):Sta:=setT (put s (hazB s.c p 0) 0) p {t with pc:=21}
def sk21 (s:Sta) (p:Nat) (t:Th):Sta:=setT (put s (hazB s.c p 1) 0) p (endT t t.res)
def sk30 (s:Sta) (p:Nat) (t:Th):Sta:=(if cl s 1≥s.c.cap then setT s p (endT t ⟨2,0⟩) else setT s p {t with seen:=cl s 1,pc:=31})
def sk31 (s:Sta) (p:Nat) (t:Th):Sta:=(if cl s 1=t.seen then setT (put s 1 (t.seen+1)) p {t with node:=mkH t.seen (s.gens.getD t.seen.toNat default),pc:=32} else setT (rtr s false) p {t with pc:=30})
def sk32 (s:Sta) (p:Nat) (t:Th):Sta:=setT (put (flt s t.node) (fldA s t.node 1) t.op.v) p {t with pc:=33}
def sk33 (s:Sta) (p:Nat) (t:Th):Sta:=setT (put (flt s t.node) (fldA s t.node 0) 0) p {t with pc:=34}
def sk34 (s:Sta) (p:Nat) (t:Th):Sta:=setT (put s (hazB s.c p 1) t.node) p {t with pc:=35}
def sk35 (s:Sta) (p:Nat) (t:Th):Sta:=setT s p {t with curr:=unmk (ld s (X2 s.c t.op.key)),pc:=if unmk (ld s (X2 s.c t.op.key))=0 then 41 else 36}
def sk36 (s:Sta) (p:Nat) (t:Th):Sta:=setT (put s (hazB s.c p 0) t.curr) p {t with pc:=37}
def sk37 (s:Sta) (p:Nat) (t:Th):Sta:=setT (rtr s (decide (ld s (X2 s.c t.op.key)=t.curr))) p {t with pc:=if ld s (X2 s.c t.op.key)=t.curr then 38 else 35}
def sk38 (s:Sta) (p:Nat) (t:Th):Sta:=setT (flt s t.curr) p {t with stamp:=ld s (fldA s t.curr 0),pc:=if ld s (fldA s t.curr 0)=0 then 39 else 41}
def sk39 (s:Sta) (p:Nat) (t:Th):Sta:=setT s p {t with seen:=cl s 0,pc:=40}
def sk40 (s:Sta) (p:Nat) (t:Th):Sta:=setT (swp (flt s t.curr) (fldA s t.curr 0) 0 t.seen) p {t with pc:=38}
def sk41 (s:Sta) (p:Nat) (t:Th):Sta:=setT (put (flt s t.node) (fldA s t.node 2) t.curr) p {t with pc:=42}
def sk42 (s:Sta) (p:Nat) (t:Th):Sta:=(if swB s (X2 s.c t.op.key) t.curr=true then setT (put s (X2 s.c t.op.key) t.node) p {t with pc:=43} else setT (rtr s false) p {t with pc:=35})
def sk43 (s:Sta) (p:Nat) (t:Th):Sta:=setT s p {t with seen:=cl s 0,pc:=44}
def sk44 (s:Sta) (p:Nat) (t:Th):Sta:=setT (swp (flt s t.node) (fldA s t.node 0) 0 t.seen) p {t with pc:=45}
def sk45 (s:Sta) (p:Nat) (t:Th):Sta:=setT (flt s t.node) p {t with buf:=if t.curr≠0∧Zt ⟨t.curr,t.op.key,t.stamp,ld s (fldA s t.node 0)⟩=true∧t.buf.length<100 then t.buf++[⟨t.curr,t.op.key,t.stamp,ld s (fldA s t.node 0)⟩] else t.buf,pc:=46}
def sk46 (s:Sta) (p:Nat) (t:Th):Sta:=setT (put s (hazB s.c p 0) 0) p {t with pc:=47}
def sk47 (s:Sta) (p:Nat) (t:Th):Sta:=setT (put s (hazB s.c p 1) 0) p (if Xin s.c t=true then {clr t with pc:=50} else endT t ⟨0,0⟩)
def sk50 (s:Sta) (p:Nat) (t:Th):Sta:=(if t.pos+1<s.c.th then setT s p {t with found:=fndT t (ld s (annB s.c t.pos)),pos:=t.pos+1}
 else
  let f:=fndT t (ld s (annB s.c t.pos))
  let key:=if t.op.k=5 then -1 else t.op.key
  let t1:={t with found:=f,pos:=t.pos+1,buf:=t.buf.filter fun e=>!drpB s.c.p key f e,work:=t.work++t.buf.filter fun e=>drpB s.c.p key f e,pc:=60}
  setT s p (if t1.work.length=0 then fin s.c t1 else t1))
def sk60 (s:Sta) (p:Nat) (t:Th):Sta:=setT (flt s (t.work.headD default).h) p {t with seen:=ld s (fldA s (t.work.headD default).h 2),pc:=61}
def sk61 (s:Sta) (p:Nat) (t:Th):Sta:=(if swB s (fldA s (t.work.headD default).h 2) t.seen=true then setT (put s (fldA s (t.work.headD default).h 2) (mrk t.seen)) p {t with pc:=10} else setT (rtr (flt s (t.work.headD default).h) false) p {t with pc:=60})
def sk62 (s:Sta) (p:Nat) (t:Th):Sta:=setT (put s (hazB s.c p 0) 0) p {t with pc:=63}
def sk63 (s:Sta) (p:Nat) (t:Th):Sta:=setT (put s (hazB s.c p 1) 0) p (fin s.c t)
def sk70 (s:Sta) (p:Nat) (t:Th):Sta:=(if t.pos+1<2*s.c.th then setT s p {t with found:=fndT t (ld s (hazB s.c (t.pos / 2) (t.pos % 2))),pos:=t.pos+1}
 else
  let f:=fndT t (ld s (hazB s.c (t.pos / 2) (t.pos % 2)))
  let st:=(t.limbo.filter fun h=>!f.contains h).foldl Xz (s.gens,t.free)
  setT {s with gens:=st.1} p (endT {t with limbo:=t.limbo.filter fun h=>f.contains h,free:=st.2} ⟨0,0⟩))
def sk80 (s:Sta) (p:Nat) (t:Th):Sta:=setT (put s (annB s.c p) 0) p (endT {t with snap:=0} ⟨0,0⟩)
def Ye (s:Sta) (p:Nat) (t:Th):Sta:=if t.pc=1 then sk1 s p t else if t.pc=2 then sk2 s p t else if t.pc=3 then sk3 s p t else if t.pc=4 then sk4 s p t else if t.pc=5 then sk5 s p t else if t.pc=10 then sk10 s p t else if t.pc=11 then sk11 s p t else if t.pc=12 then sk12 s p t else if t.pc=13 then sk13 s p t else if t.pc=14 then sk14 s p t else if t.pc=15 then sk15 s p t else if t.pc=16 then sk16 s p t else if t.pc=17 then sk17 s p t else if t.pc=18 then sk18 s p t else if t.pc=19 then sk19 s p t else if t.pc=20 then sk20 s p t else if t.pc=21 then sk21 s p t else if t.pc=30 then sk30 s p t else if t.pc=31 then sk31 s p t else if t.pc=32 then sk32 s p t else if t.pc=33 then sk33 s p t else if t.pc=34 then sk34 s p t else if t.pc=35 then sk35 s p t else if t.pc=36 then sk36 s p t else if t.pc=37 then sk37 s p t else if t.pc=38 then sk38 s p t else if t.pc=39 then sk39 s p t else if t.pc=40 then sk40 s p t else if t.pc=41 then sk41 s p t else if t.pc=42 then sk42 s p t else if t.pc=43 then sk43 s p t else if t.pc=44 then sk44 s p t else if t.pc=45 then sk45 s p t else if t.pc=46 then sk46 s p t else if t.pc=47 then sk47 s p t else if t.pc=50 then sk50 s p t else if t.pc=60 then sk60 s p t else if t.pc=61 then sk61 s p t else if t.pc=62 then sk62 s p t else if t.pc=63 then sk63 s p t else if t.pc=70 then sk70 s p t else sk80 s p t
theorem st1 {s:Sta} {p:Nat} {t:Th} (h:t.pc=1):Ye s p t=sk1 s p t:=by
 unfold Ye;rw [h];rfl
theorem st2 {s:Sta} {p:Nat} {t:Th} (h:t.pc=2):Ye s p t=sk2 s p t:=by
 unfold Ye;rw [h];rfl
theorem st3 {s:Sta} {p:Nat} {t:Th} (h:t.pc=3):Ye s p t=sk3 s p t:=by
 unfold Ye;rw [h];rfl
theorem st4 {s:Sta} {p:Nat} {t:Th} (h:t.pc=4):Ye s p t=sk4 s p t:=by
 unfold Ye;rw [h];rfl
theorem st5 {s:Sta} {p:Nat} {t:Th} (h:t.pc=5):Ye s p t=sk5 s p t:=by
 unfold Ye;rw [h];rfl
theorem st10 {s:Sta} {p:Nat} {t:Th} (h:t.pc=10):Ye s p t=sk10 s p t:=by
 unfold Ye;rw [h];rfl
theorem st11 {s:Sta} {p:Nat} {t:Th} (h:t.pc=11):Ye s p t=sk11 s p t:=by
 unfold Ye;rw [h];rfl
theorem st12 {s:Sta} {p:Nat} {t:Th} (h:t.pc=12):Ye s p t=sk12 s p t:=by
 unfold Ye;rw [h];rfl
theorem st13 {s:Sta} {p:Nat} {t:Th} (h:t.pc=13):Ye s p t=sk13 s p t:=by
 unfold Ye;rw [h];rfl
theorem st14 {s:Sta} {p:Nat} {t:Th} (h:t.pc=14):Ye s p t=sk14 s p t:=by
 unfold Ye;rw [h];rfl
theorem st15 {s:Sta} {p:Nat} {t:Th} (h:t.pc=15):Ye s p t=sk15 s p t:=by
 unfold Ye;rw [h];rfl
theorem st16 {s:Sta} {p:Nat} {t:Th} (h:t.pc=16):Ye s p t=sk16 s p t:=by
 unfold Ye;rw [h];rfl
theorem st17 {s:Sta} {p:Nat} {t:Th} (h:t.pc=17):Ye s p t=sk17 s p t:=by
 unfold Ye;rw [h];rfl
theorem st18 {s:Sta} {p:Nat} {t:Th} (h:t.pc=18):Ye s p t=sk18 s p t:=by
 unfold Ye;rw [h];rfl
theorem st19 {s:Sta} {p:Nat} {t:Th} (h:t.pc=19):Ye s p t=sk19 s p t:=by
 unfold Ye;rw [h];rfl
theorem st20 {s:Sta} {p:Nat} {t:Th} (h:t.pc=20):Ye s p t=sk20 s p t:=by
 unfold Ye;rw [h];rfl
theorem st21 {s:Sta} {p:Nat} {t:Th} (h:t.pc=21):Ye s p t=sk21 s p t:=by
 unfold Ye;rw [h];rfl
theorem st30 {s:Sta} {p:Nat} {t:Th} (h:t.pc=30):Ye s p t=sk30 s p t:=by
 unfold Ye;rw [h];rfl
theorem st31 {s:Sta} {p:Nat} {t:Th} (h:t.pc=31):Ye s p t=sk31 s p t:=by
 unfold Ye;rw [h];rfl
theorem st32 {s:Sta} {p:Nat} {t:Th} (h:t.pc=32):Ye s p t=sk32 s p t:=by
 unfold Ye;rw [h];rfl
theorem st33 {s:Sta} {p:Nat} {t:Th} (h:t.pc=33):Ye s p t=sk33 s p t:=by
 unfold Ye;rw [h];rfl
theorem st34 {s:Sta} {p:Nat} {t:Th} (h:t.pc=34):Ye s p t=sk34 s p t:=by
 unfold Ye;rw [h];rfl
theorem st35 {s:Sta} {p:Nat} {t:Th} (h:t.pc=35):Ye s p t=sk35 s p t:=by
 unfold Ye;rw [h];rfl
theorem st36 {s:Sta} {p:Nat} {t:Th} (h:t.pc=36):Ye s p t=sk36 s p t:=by
 unfold Ye;rw [h];rfl
theorem st37 {s:Sta} {p:Nat} {t:Th} (h:t.pc=37):Ye s p t=sk37 s p t:=by
 unfold Ye;rw [h];rfl
theorem st38 {s:Sta} {p:Nat} {t:Th} (h:t.pc=38):Ye s p t=sk38 s p t:=by
 unfold Ye;rw [h];rfl
theorem st39 {s:Sta} {p:Nat} {t:Th} (h:t.pc=39):Ye s p t=sk39 s p t:=by
 unfold Ye;rw [h];rfl
theorem st40 {s:Sta} {p:Nat} {t:Th} (h:t.pc=40):Ye s p t=sk40 s p t:=by
 unfold Ye;rw [h];rfl
theorem st41 {s:Sta} {p:Nat} {t:Th} (h:t.pc=41):Ye s p t=sk41 s p t:=by
 unfold Ye;rw [h];rfl
theorem st42 {s:Sta} {p:Nat} {t:Th} (h:t.pc=42):Ye s p t=sk42 s p t:=by
 unfold Ye;rw [h];rfl
theorem st43 {s:Sta} {p:Nat} {t:Th} (h:t.pc=43):Ye s p t=sk43 s p t:=by
 unfold Ye;rw [h];rfl
theorem st44 {s:Sta} {p:Nat} {t:Th} (h:t.pc=44):Ye s p t=sk44 s p t:=by
 unfold Ye;rw [h];rfl
theorem st45 {s:Sta} {p:Nat} {t:Th} (h:t.pc=45):Ye s p t=sk45 s p t:=by
 unfold Ye;rw [h];rfl
theorem st46 {s:Sta} {p:Nat} {t:Th} (h:t.pc=46):Ye s p t=sk46 s p t:=by
 unfold Ye;rw [h];rfl
theorem st47 {s:Sta} {p:Nat} {t:Th} (h:t.pc=47):Ye s p t=sk47 s p t:=by
 unfold Ye;rw [h];rfl
theorem st50 {s:Sta} {p:Nat} {t:Th} (h:t.pc=50):Ye s p t=sk50 s p t:=by
 unfold Ye;rw [h];rfl
theorem st60 {s:Sta} {p:Nat} {t:Th} (h:t.pc=60):Ye s p t=sk60 s p t:=by
 unfold Ye;rw [h];rfl
theorem st61 {s:Sta} {p:Nat} {t:Th} (h:t.pc=61):Ye s p t=sk61 s p t:=by
 unfold Ye;rw [h];rfl
theorem st62 {s:Sta} {p:Nat} {t:Th} (h:t.pc=62):Ye s p t=sk62 s p t:=by
 unfold Ye;rw [h];rfl
theorem st63 {s:Sta} {p:Nat} {t:Th} (h:t.pc=63):Ye s p t=sk63 s p t:=by
 unfold Ye;rw [h];rfl
theorem st70 {s:Sta} {p:Nat} {t:Th} (h:t.pc=70):Ye s p t=sk70 s p t:=by
 unfold Ye;rw [h];rfl
theorem st80 {s:Sta} {p:Nat} {t:Th} (h:t.pc=80):Ye s p t=sk80 s p t:=by
 unfold Ye;rw [h];rfl
def pcL:List Int:=[0,1,2,3,4,5,10,11,12,13,14,15,16,17,18,19,20,21,30,31,32,33,34,35,36,37,38,39,40,41,42,43,44,45,46,47,50,60,61,62,63,70,80]
def stepV (s:Sta) (p:Nat):Sta:={Ye s p (s.th p) with steps:=s.steps+1}
end
noncomputable section
structure CV (s:Sta):Prop where
 cf:Yp s.c=true
 lc:(s.cells.length:Int)=2+3*s.c.th+s.c.keys+3*s.c.cap
 lg:(s.gens.length:Int)=s.c.cap
 lt:(s.ths.length:Int)=s.c.th
 ck:1≤cl s 0∧cl s 0≤s.c.cm
 ar:0≤cl s 1∧cl s 1≤s.c.cap
 hd:∀ k:Int,0≤k→k<s.c.keys→lnkB s.c (cl s (2+3*s.c.th+k))=true
 sp:∀ i:Int,0≤i→i<s.c.cap→0≤cl s (2+3*s.c.th+s.c.keys+3*i)∧cl s (2+3*s.c.th+s.c.keys+3*i)≤99
 ol:∀ i:Int,0≤i→i<s.c.cap→Vg s.c (cl s (2+3*s.c.th+s.c.keys+3*i+2))=true
 gn:∀ i:Nat,i<s.gens.length→0≤s.gens.getD i default∧s.gens.getD i default≤9998
 i6:∀ x∈s.cells,I64 x
structure NV (s:Sta):Prop where
 n1:0≤s.steps∧s.steps≤1000000
 n2:0≤s.changes∧s.changes≤1000000
 n3:0≤s.retries∧s.retries≤1000000
 n4:0≤s.faults∧s.faults≤1000000
structure TV (c:Cf) (t:Th):Prop where
 pcs:Xfs t.pc=true
 ops:t.pc≠0→Vx t.op=true∧t.op.key<c.keys
 wk:t.pc=60∨t.pc=61→t.work.length≠0
 p5:t.pc=50→0≤t.pos∧t.pos≤c.th - 1
 p7:t.pc=70→0≤t.pos∧t.pos≤2*c.th - 1
 nd:lnkB c t.node=true
 pv:lnkB c t.prev=true
 cr:lnkB c t.curr=true
 nx:Vg c t.next=true
 sn:0≤t.snap∧t.snap≤99
 lf:t.free.length≤100
 ll:t.limbo.length≤100
 lo:t.found.length≤100
 lb:t.buf.length≤100
 lw:t.work.length≤100
 bf:∀ e∈t.buf,(Zt e=true∧e.key<c.keys)∧Y4 c e.h=true
 wf:∀ e∈t.work,(Zt e=true∧e.key<c.keys)∧Y4 c e.h=true
 fr:∀ i∈t.free,0≤i∧i≤c.cap - 1
 lm:∀ h∈t.limbo,Y4 c h=true
theorem Xz7 {c:Cf} {t:Th}:thB c t=true↔TV c t:=by
 unfold thB opsB Xco Xdh Xie Xm0 fB lB
 simp only [Bool.and_eq_true,Bool.or_eq_true,Bool.not_eq_true',decide_eq_true_eq,decide_eq_false_iff_not,List.all_eq_true,Bool.or_eq_false_iff]
 constructor
 ·rintro ⟨⟨⟨⟨⟨⟨⟨⟨⟨h1,h2⟩,h3⟩,h4⟩,h5⟩,h6⟩,h7⟩,h8⟩,h9⟩,h10⟩
  refine ⟨h1,fun h=>h2.resolve_left h,?_,?_,?_,h4.1.1.1,h4.1.1.2,h4.1.2,h4.2,h5,h6.1.1,h6.1.2,h6.2,h7.1,h8.1,h7.2,h8.2,h9,h10⟩
  ·intro h
   rcases h3.1.1 with hh | hh
   ·omega
   ·exact hh
  ·intro h
   rcases h3.1.2 with hh | hh
   ·omega
   ·exact hh
  ·intro h
   rcases h3.2 with hh | hh
   ·omega
   ·exact hh
 ·intro H
  refine ⟨⟨⟨⟨⟨⟨⟨⟨⟨H.pcs,?_⟩,⟨⟨?_,?_⟩,?_⟩⟩,⟨⟨⟨H.nd,H.pv⟩,H.cr⟩,H.nx⟩⟩,H.sn⟩,⟨⟨H.lf,H.ll⟩,H.lo⟩⟩,⟨H.lb,H.bf⟩⟩,⟨H.lw,H.wf⟩⟩,H.fr⟩,H.lm⟩
  ·by_cases h:t.pc=0
   ·exact .inl h
   ·exact .inr (H.ops h)
  ·by_cases h:t.pc=60∨t.pc=61
   ·exact .inr (H.wk h)
   ·exact .inl (by omega)
  ·by_cases h:t.pc=50
   ·exact .inr (H.p5 h)
   ·exact .inl h
  ·by_cases h:t.pc=70
   ·exact .inr (H.p7 h)
   ·exact .inl h
theorem X2o {c:Cf} {h:Int} (hl:lnkB c h=true):unmk h=h:=by
 unfold unmk
 rw [if_neg]
 intro hm
 unfold lnkB at hl
 rw [hm] at hl
 simp only [Bool.not_true,Bool.and_false,Bool.or_false,decide_eq_true_eq] at hl
 subst hl
 revert hm
 decide
theorem Xfx {c:Cf} {k:Int} (hc:Yp c=true) (h0:0≤k) (h1:k<c.keys):X2 c k=2+3*c.th+k:=by
 unfold X2;rw [if_pos ⟨hc,h0,by omega⟩]
theorem Xj5 {c:Cf} {i f:Int} (hc:Yp c=true) (h0:0≤i) (h1:i<c.cap) (hf:0≤f∧f≤2):ncB c i f=2+3*c.th+c.keys+3*i+f:=by
 unfold ncB;rw [if_pos ⟨hc,⟨h0,by omega⟩,hf⟩]
theorem Xqo {c:Cf} {p:Int} (hc:Yp c=true) (h0:0≤p) (h1:p<c.th):annB c p=2+p:=by
 unfold annB;rw [if_pos ⟨hc,h0,by omega⟩]
theorem Xqp {c:Cf} {p j:Int} (hc:Yp c=true) (h0:0≤p) (h1:p<c.th) (hj:0≤j∧j≤1):hazB c p j=2+c.th+2*p+j:=by
 unfold hazB;rw [if_pos ⟨hc,⟨h0,by omega⟩,hj⟩]
theorem Xfy {s:Sta}:staB s=true∧(∀ x∈s.cells,I64 x)↔CV s∧NV s∧∀ t∈s.ths,TV s.c t:=by
 unfold staB eqI Xdi Xhi
 simp only [Bool.and_eq_true,decide_eq_true_eq,List.all_eq_true,List.mem_range,Xar,Xbi]
 constructor
 ·rintro ⟨⟨h1,h2,h3,h4,h5,h6,h7,h8,h9,h10,h11,h12,h13⟩,h14⟩
  have hb:=Xm h1
  refine ⟨⟨h1,?_,h3,h4,h5,h6,?_,?_,?_,?_,h14⟩,⟨h7,h8,h9,h10⟩,fun t ht=>Xz7.1 (h13 t ht)⟩
  ·rw [h2,Xig h1]
  ·intro k k0 k1
   have:=h11 k.toNat (by omega)
   rwa [show ((k.toNat:Nat):Int)=k by omega,Xfx h1 k0 k1] at this
  ·intro k k0 k1
   have:=(h12 k.toNat (by omega)).1.2
   rw [show ((k.toNat:Nat):Int)=k by omega,Xj5 h1 k0 k1 (by omega)] at this
   simpa using this
  ·intro k k0 k1
   have:=(h12 k.toNat (by omega)).2
   rwa [show ((k.toNat:Nat):Int)=k by omega,Xj5 h1 k0 k1 (by omega)] at this
  ·intro i hi
   exact (h12 i (by omega)).1.1
 ·rintro ⟨H,N,T⟩
  have hb:=Xm H.cf
  refine ⟨⟨H.cf,by rw [H.lc,Xig H.cf],H.lg,H.lt,H.ck,H.ar,N.n1,N.n2,N.n3,N.n4,?_,?_,fun t ht=>Xz7.2 (T t ht)⟩,H.i6⟩
  ·intro k hk
   rw [Xfx H.cf (by omega) (by omega)]
   exact H.hd k (by omega) (by omega)
  ·intro i hi
   refine ⟨⟨?_,?_⟩,?_⟩
   ·exact H.gn i (by have:=H.lg;omega)
   ·rw [Xj5 H.cf (by omega) (by omega) (by omega)]
    have:=H.sp i (by omega) (by omega)
    simpa using this
   ·rw [Xj5 H.cf (by omega) (by omega) (by omega)]
    exact H.ol i (by omega) (by omega)
theorem X4t {s:Sta} {a v i:Int} (ha:0≤a∧a<(s.cells.length:Int)) (hi:0≤i):cl (put s a v) i=if i=a then v else cl s i:=by
 unfold put cl
 rw [if_pos ha]
 dsimp only
 rw [List.getD_eq_getElem?_getD,List.getElem?_set]
 by_cases e:i=a
 ·subst e
  rw [if_pos rfl,if_pos rfl,if_pos (by omega)]
  rfl
 ·rw [if_neg (by omega),if_neg e,List.getD_eq_getElem?_getD]
theorem Xv6 {s:Sta} {a v:Int} (ha:¬(0≤a∧a<(s.cells.length:Int))):put s a v=s:=by
 unfold put;rw [if_neg ha]
theorem Xfz {s:Sta} {a v:Int}:(put s a v).c=s.c:=by unfold put;split <;> rfl
theorem Xqq {s:Sta} {a v:Int}:(put s a v).ths=s.ths:=by unfold put;split <;> rfl
theorem Xss {s:Sta} {a v:Int}:(put s a v).gens=s.gens:=by unfold put;split <;> rfl
theorem X2p {s:Sta} {a v:Int}:(put s a v).cells.length=s.cells.length:=by
 unfold put;split
 ·simp
 ·rfl
theorem Xz8 {s:Sta} {a v:Int}:(put s a v).steps=s.steps:=by unfold put;split <;> rfl
theorem Xz9 {s:Sta} {a v:Int}:(put s a v).retries=s.retries:=by unfold put;split <;> rfl
theorem X0a {s:Sta} {a v:Int}:(put s a v).faults=s.faults:=by unfold put;split <;> rfl
theorem X0b {s:Sta} {a v:Int}:s.changes≤(put s a v).changes∧(put s a v).changes≤s.changes+1:=by
 unfold put;split
 ·dsimp only;split <;> omega
 ·omega
structure PutOK (s:Sta) (a v:Int):Prop where
 i6:I64 v
 h0:a=0→1≤v∧v≤s.c.cm
 h1:a=1→0≤v∧v≤s.c.cap
 hd:∀ k:Int,0≤k→k<s.c.keys→a=2+3*s.c.th+k→lnkB s.c v=true
 sp:∀ i:Int,0≤i→i<s.c.cap→a=2+3*s.c.th+s.c.keys+3*i→0≤v∧v≤99
 ol:∀ i:Int,0≤i→i<s.c.cap→a=2+3*s.c.th+s.c.keys+3*i+2→Vg s.c v=true
theorem CV.pt {s:Sta} {a v:Int} (H:CV s) (P:PutOK s a v):CV (put s a v):=by
 by_cases ha:0≤a∧a<(s.cells.length:Int)
 ·have hb:=Xm H.cf
  have C:=fun {i:Int}=>@X4t s a v i ha
  refine ⟨by rw [Xfz];exact H.cf,by rw [X2p,Xfz];exact H.lc,by rw [Xss,Xfz];exact H.lg,by rw [Xqq,Xfz];exact H.lt,?_,?_,?_,?_,?_,?_,?_⟩
  ·rw [C (by omega),Xfz]
   split
   ·exact P.h0 (by omega)
   ·exact H.ck
  ·rw [C (by omega),Xfz]
   split
   ·exact P.h1 (by omega)
   ·exact H.ar
  ·rw [Xfz]
   intro k k0 k1
   rw [C (by omega)]
   split
   ·exact P.hd k k0 k1 (by omega)
   ·exact H.hd k k0 k1
  ·rw [Xfz]
   intro k k0 k1
   rw [C (by omega)]
   split
   ·exact P.sp k k0 k1 (by omega)
   ·exact H.sp k k0 k1
  ·rw [Xfz]
   intro k k0 k1
   rw [C (by omega)]
   split
   ·exact P.ol k k0 k1 (by omega)
   ·exact H.ol k k0 k1
  ·rw [Xss];exact H.gn
  ·intro x hx
   unfold put at hx
   rw [if_pos ha] at hx
   rcases List.mem_or_eq_of_mem_set hx with h | h
   ·exact H.i6 x h
   ·rw [h];exact P.i6
 ·rw [Xv6 ha];exact H
theorem CV.of {s u:Sta} (H:CV s) (h1:u.c=s.c) (h2:u.cells=s.cells) (h3:u.gens=s.gens) (h4:u.ths.length=s.ths.length):CV u:=by
 have e:∀ i,cl u i=cl s i:=fun i=>by unfold cl;rw [h2]
 refine ⟨by rw [h1];exact H.cf,by rw [h1,h2];exact H.lc,by rw [h1,h3];exact H.lg,by rw [h1,h4];exact H.lt,by rw [h1,e];exact H.ck,by rw [h1,e];exact H.ar,?_,?_,?_,by rw [h3];exact H.gn,by rw [h2];exact H.i6⟩
 ·intro k;rw [h1,e];exact H.hd k
 ·intro k;rw [h1,e];exact H.sp k
 ·intro k;rw [h1,e];exact H.ol k
theorem CV.cell6 {s:Sta} (H:CV s) {i:Int} (h:0≤i∧i<(s.cells.length:Int)):I64 (cl s i):=H.i6 _ (Xdj h)
theorem CV.ld6 {s:Sta} (H:CV s) {i:Int}:I64 (ld s i):=by
 rw [Xfw]
 split
 ·exact H.cell6 ‹_›
 ·unfold I64;omega
theorem CV.clock {s:Sta} (H:CV s):I64 (cl s 0):=by
 have hb:=Xm H.cf
 exact H.cell6 (by have:=H.lc;omega)
theorem CV.head {s:Sta} (H:CV s) {k:Int} (h0:0≤k) (h1:k<s.c.keys):lnkB s.c (ld s (X2 s.c k))=true:=by
 have hb:=Xm H.cf
 have hl:=H.lc
 rw [Xfw]
 rw [Xfx H.cf h0 h1,if_pos (by omega)]
 exact H.hd k h0 h1
theorem Vp {c:Cf}:lnkB c 0=true:=by unfold lnkB;simp
theorem X6d:isH 0=false:=by unfold isH;simp
theorem X0c:isMk 0=false:=by unfold isMk;rw [X6d];simp
theorem X4u:unmk 0=0:=by unfold unmk;rw [X0c];simp
theorem Xcr {c:Cf}:Vg c 0=true:=by rw [←Wm,X4u];exact Vp
theorem Xio {c:Cf} {h:Int} (hl:lnkB c h=true):Vg c h=true:=by rw [←Wm,X2o hl];exact hl
theorem Vi {s:Sta} {h:Int} (hc:curB s h=true):Y4 s.c h=true:=by
 unfold curB at hc
 exact (Bool.and_eq_true_iff.1 hc).1
theorem Xue {s:Sta} (H:CV s) {h f:Int} (hf:0≤f∧f≤2) (hc:curB s (unmk h)=true):0≤idxB (unmk h)∧idxB (unmk h)<s.c.cap∧fldA s h f=2+3*s.c.th+s.c.keys+3*idxB (unmk h)+f:=by
 have hx:=Y3 (Vi hc)
 unfold fldA
 rw [if_pos hc,Xj5 H.cf hx.1 hx.2 hf]
 exact ⟨hx.1,hx.2,rfl⟩
theorem Xuf {s:Sta} {h f:Int} (hc:¬curB s (unmk h)=true):fldA s h f=-1:=by unfold fldA;rw [if_neg hc]
theorem X3n {s:Sta}:ld s (-1)=0:=by rw [Xfw,if_neg (by omega)]
theorem CV.older {s:Sta} (H:CV s) {h:Int}:Vg s.c (ld s (fldA s h 2))=true:=by
 have hb:=Xm H.cf
 have hl:=H.lc
 by_cases hc:curB s (unmk h)=true
 ·obtain ⟨h0,h1,e⟩:=Xue H (f:=2) (by omega) hc
  rw [Xfw]
  rw [e,if_pos (by omega)]
  exact H.ol _ h0 h1
 ·rw [Xuf hc,X3n];exact Xcr
theorem CV.stamp {s:Sta} (H:CV s) {h:Int}:0≤ld s (fldA s h 0)∧ld s (fldA s h 0)≤99:=by
 have hb:=Xm H.cf
 have hl:=H.lc
 by_cases hc:curB s (unmk h)=true
 ·obtain ⟨h0,h1,e⟩:=Xue H (f:=0) (by omega) hc
  rw [Xfw]
  rw [e,if_pos (by omega)]
  have:=H.sp _ h0 h1
  simpa using this
 ·rw [Xuf hc,X3n];omega
theorem PutOK.own {s:Sta} (H:CV s) {a v:Int} (h6:I64 v) (h:a<0∨2≤a∧a<2+3*s.c.th):PutOK s a v:=by
 have hb:=Xm H.cf
 exact ⟨h6,by omega,by omega,by omega,by omega,by omega⟩
theorem Xug {c:Cf} (hc:Yp c=true) {p:Int}:annB c p<0∨2≤annB c p∧annB c p<2+3*c.th:=by
 have hb:=Xm hc
 unfold annB
 split <;> omega
theorem Xcs {c:Cf} (hc:Yp c=true) {p j:Int}:hazB c p j<0∨2≤hazB c p j∧hazB c p j<2+3*c.th:=by
 have hb:=Xm hc
 unfold hazB
 split <;> omega
theorem PutOK.fld {s:Sta} (H:CV s) {h f v:Int} (h6:I64 v) (hf:0≤f∧f≤2) (h0:f=0→0≤v∧v≤99) (h2:f=2→Vg s.c v=true):PutOK s (fldA s h f) v:=by
 have hb:=Xm H.cf
 by_cases hc:curB s (unmk h)=true
 ·obtain ⟨i0,i1,e⟩:=Xue H hf hc
  rw [e]
  exact ⟨h6,by omega,by omega,by omega,fun i _ _ _=>h0 (by omega),fun i _ _ _=>h2 (by omega)⟩
 ·rw [Xuf hc]
  exact ⟨h6,by omega,by omega,by omega,by omega,by omega⟩
end
noncomputable section
theorem pcOK:∀ k∈pcL,Xfs k=true:=by
 intro k hk
 unfold Xfs Xj1
 rw [Xdv]
 simp only [pcL,List.mem_cons,List.not_mem_nil,or_false] at hk
 rcases hk with rfl | rfl | rfl | rfl | rfl | rfl | rfl | rfl | rfl | rfl | rfl | rfl | rfl | rfl | rfl | rfl | rfl | rfl | rfl | rfl | rfl | rfl | rfl | rfl | rfl | rfl | rfl | rfl | rfl | rfl | rfl | rfl | rfl | rfl | rfl | rfl | rfl | rfl | rfl | rfl | rfl | rfl | rfl <;> decide +kernel
theorem X0d {k:Int} (h:Xfs k=true):k∈pcL:=by
 unfold Xfs Xj1 at h
 rw [Xdv] at h
 unfold Xmy at h
 have key:∀ (l:List (Int×ByteArray)),k ∉ l.map Prod.fst→Xku k l=⟨#[]⟩:=by
  intro l hl
  induction l with
  | nil=>rfl
  | cons a l ih =>
    obtain ⟨a1,a2⟩:=a
    simp only [List.map_cons,List.mem_cons,not_or] at hl
    unfold Xku
    have e:(k==a1)=false:=by simpa using hl.1
    show (bif k==a1 then a2 else Xku k l)=_
    rw [e]
    exact ih hl.2
 have hm:=Classical.byContradiction fun hn:¬k∈Xmy.map Prod.fst=>by
  unfold Xmy at hn
  rw [key _ hn] at h
  simp at h
 exact hm
structure TI (c:Cf) (t:Th) (n:Nat):Prop where
 s6:I64 t.seen
 w1:t.pc=31→0≤t.seen∧t.seen<c.cap
 ss:t.pc=18∨t.pc=40∨t.pc=44→1≤t.seen∧t.seen≤c.cm
 sb:t.pc=2∨t.pc=3∨t.pc=4→1≤t.seen∧t.seen<c.cm
 fo:t.found.length≤8
 f5:t.pc=50∨t.pc=70→(t.found.length:Int)≤t.pos
 to:t.buf.length+t.work.length+t.limbo.length+(if 30≤t.pc∧t.pc≤45 then 1 else 0)≤n
structure SI (s:Sta) (ns:Nat→Nat):Prop where
 cv:CV s
 tv:∀ p,p<s.ths.length→TV s.c (s.th p)∧TI s.c (s.th p) (ns p)
structure Good (s:Sta) (p:Nat) (n:Nat) (u:Sta):Prop where
 ex:∃ s' t',u=setT s' p t'∧CV s'∧s'.c=s.c∧s'.ths=s.ths∧TV s.c t'∧TI s.c t' n
 st:u.steps=s.steps
 ch:s.changes≤u.changes∧u.changes≤s.changes+1
 rt:s.retries≤u.retries∧u.retries≤s.retries+1
 fl:s.faults≤u.faults∧u.faults≤s.faults+1
theorem Xuh {s:Sta} {p q:Nat} {t:Th} (hp:p<s.ths.length):(setT s p t).th q=if q=p then t else s.th q:=by
 unfold Sta.th setT
 dsimp only
 rw [List.getD_eq_getElem?_getD,List.getElem?_set]
 by_cases e:q=p
 ·subst e;rw [if_pos rfl,if_pos rfl,if_pos hp];rfl
 ·rw [if_neg (fun h=>e h.symm),if_neg e,List.getD_eq_getElem?_getD]
theorem Good.si {s u:Sta} {p n:Nat} {ns:Nat→Nat} (G:Good s p n u) (H:SI s ns) (hp:p<s.ths.length) (hn:n=ns p):SI u ns:=by
 obtain ⟨s',t',rfl,c1,c2,c3,c4,c5⟩:=G.ex
 refine ⟨c1.of rfl rfl rfl (by simp [setT]),fun q hq=>?_⟩
 have hq':q<s.ths.length:=by rw [←c3];simpa [setT] using hq
 rw [Xuh (by rw [c3];exact hp)]
 show TV s'.c _∧TI s'.c _ _
 rw [c2]
 split
 ·rename_i e;subst e;rw [←hn];exact ⟨c4,c5⟩
 ·unfold Sta.th;rw [c3];exact H.tv q hq'
theorem Good.of {s s':Sta} {p n:Nat} {t':Th} (h:CV s') (h1:s'.c=s.c) (h2:s'.ths=s.ths) (ht:TV s.c t') (hi:TI s.c t' n) (st:s'.steps=s.steps)
 (ch:s.changes≤s'.changes∧s'.changes≤s.changes+1) (rt:s.retries≤s'.retries∧s'.retries≤s.retries+1) (fl:s.faults≤s'.faults∧s'.faults≤s.faults+1):Good s p n (setT s' p t') :=
 ⟨⟨s',t',rfl,h,h1,h2,ht,hi⟩,st,ch,rt,fl⟩
theorem Good.id {s:Sta} {p n:Nat} {t':Th} (h:CV s) (ht:TV s.c t') (hi:TI s.c t' n):Good s p n (setT s p t') :=
 .of h rfl rfl ht hi rfl (by omega) (by omega) (by omega)
theorem Good.pt {s:Sta} {p n:Nat} {t':Th} {a v:Int} (h:CV s) (P:PutOK s a v) (ht:TV s.c t') (hi:TI s.c t' n):Good s p n (setT (put s a v) p t') :=
 .of (h.pt P) Xfz Xqq ht hi Xz8 X0b (by rw [Xz9];omega) (by rw [X0a];omega)
theorem Xst {s:Sta} {h:Int}:(flt s h).c=s.c:=by unfold flt;split <;> rfl
theorem Xxk {s:Sta} {h:Int}:(flt s h).cells=s.cells:=by unfold flt;split <;> rfl
theorem X0e {s:Sta} {h:Int}:(flt s h).gens=s.gens:=by unfold flt;split <;> rfl
theorem Xlm {s:Sta} {h:Int}:(flt s h).ths=s.ths:=by unfold flt;split <;> rfl
theorem Xui {s:Sta} {h:Int}:(flt s h).steps=s.steps:=by unfold flt;split <;> rfl
theorem Xuj {s:Sta} {h:Int}:(flt s h).changes=s.changes:=by unfold flt;split <;> rfl
theorem Xuk {s:Sta} {h:Int}:(flt s h).retries=s.retries:=by unfold flt;split <;> rfl
theorem Xul {s:Sta} {h:Int}:s.faults≤(flt s h).faults∧(flt s h).faults≤s.faults+1:=by
 unfold flt;split
 ·omega
 ·dsimp only;omega
theorem CV.ft {s:Sta} {h:Int} (H:CV s):CV (flt s h):=H.of Xst Xxk X0e (by rw [Xlm])
theorem PutOK.of {s u:Sta} {a v:Int} (P:PutOK s a v) (h:u.c=s.c):PutOK u a v:=by
 refine ⟨P.i6,by rw [h];exact P.h0,by rw [h];exact P.h1,by rw [h];exact P.hd,by rw [h];exact P.sp,by rw [h];exact P.ol⟩
theorem Good.ft {s:Sta} {p n:Nat} {t':Th} {h:Int} (H:CV s) (ht:TV s.c t') (hi:TI s.c t' n):Good s p n (setT (flt s h) p t') :=
 .of H.ft Xst Xlm ht hi Xui (by rw [Xuj];omega) (by rw [Xuk];omega) Xul
theorem Good.fput {s:Sta} {p n:Nat} {t':Th} {h a v:Int} (H:CV s) (P:PutOK s a v) (ht:TV s.c t') (hi:TI s.c t' n):Good s p n (setT (put (flt s h) a v) p t') :=
 .of (H.ft.pt (P.of Xst)) (Xfz.trans Xst) (Xqq.trans Xlm) ht hi (Xz8.trans Xui) (by have:=@X0b (flt s h) a v;rwa [Xuj] at this) (by rw [Xz9,Xuk];omega) (by rw [X0a];exact Xul)
theorem Good.sw {s:Sta} {p n:Nat} {t':Th} {h a o v:Int} (H:CV s) (P:swB (flt s h) a o=true→PutOK s a v) (ht:TV s.c t') (hi:TI s.c t' n):Good s p n (setT (swp (flt s h) a o v) p t'):=by
 unfold swp
 split
 ·exact .fput H (P ‹_›) ht hi
 ·exact .ft H ht hi
theorem Xln {s:Sta} {t:Th}:lnkF s t=s∨lnkF s t=flt s t.prev:=by unfold lnkF;split <;> simp
theorem X0f {s:Sta} {b:Bool}:(rtr s b).c=s.c:=by unfold rtr;split <;> rfl
theorem Xxl {s:Sta} {b:Bool}:(rtr s b).cells=s.cells:=by unfold rtr;split <;> rfl
theorem X0g {s:Sta} {b:Bool}:(rtr s b).gens=s.gens:=by unfold rtr;split <;> rfl
theorem Xqr {s:Sta} {b:Bool}:(rtr s b).ths=s.ths:=by unfold rtr;split <;> rfl
theorem X0h {s:Sta} {b:Bool}:(rtr s b).steps=s.steps:=by unfold rtr;split <;> rfl
theorem X0i {s:Sta} {b:Bool}:(rtr s b).changes=s.changes:=by unfold rtr;split <;> rfl
theorem X0j {s:Sta} {b:Bool}:(rtr s b).faults=s.faults:=by unfold rtr;split <;> rfl
theorem X0k {s:Sta} {b:Bool}:s.retries≤(rtr s b).retries∧(rtr s b).retries≤s.retries+1:=by
 unfold rtr;split
 ·omega
 ·dsimp only;omega
theorem CV.rt {s:Sta} {b:Bool} (H:CV s):CV (rtr s b):=H.of X0f Xxl X0g (by rw [Xqr])
theorem Good.rty {s:Sta} {p n:Nat} {t':Th} {b:Bool} (H:CV s) (ht:TV s.c t') (hi:TI s.c t' n):Good s p n (setT (rtr s b) p t') :=
 .of H.rt X0f Xqr ht hi X0h (by rw [X0i];omega) X0k (by rw [X0j];omega)
theorem Good.frtr {s:Sta} {p n:Nat} {t':Th} {b:Bool} {h:Int} (H:CV s) (ht:TV s.c t') (hi:TI s.c t' n):Good s p n (setT (rtr (flt s h) b) p t') :=
 .of H.ft.rt (X0f.trans Xst) (Xqr.trans Xlm) ht hi (X0h.trans Xui) (by rw [X0i,Xuj];omega) (by have:=@X0k (flt s h) b;rwa [Xuk] at this) (by rw [X0j];exact Xul)
theorem TV.to {c:Cf} {t:Th} (H:TV c t) (hp:t.pc≠0) (t':Th) (hpc:Xfs t'.pc=true) (nd:lnkB c t'.node=true) (pv:lnkB c t'.prev=true) (cr:lnkB c t'.curr=true) (nx:Vg c t'.next=true)
 (wk:t'.pc=60∨t'.pc=61→t'.work.length≠0:=by intro h;simp_all) (p5:t'.pc=50→0≤t'.pos∧t'.pos≤c.th - 1:=by intro h;simp_all) (p7:t'.pc=70→0≤t'.pos∧t'.pos≤2*c.th - 1:=by intro h;simp_all)
 (ho:t'.op=t.op:=by rfl) (hf:t'.free=t.free:=by rfl) (hl:t'.limbo=t.limbo:=by rfl) (hb:t'.buf=t.buf:=by rfl) (hw:t'.work=t.work:=by rfl) (hsn:t'.snap=t.snap∨0≤t'.snap∧t'.snap≤99:=by exact .inl rfl)
 (hfo:t'.found=t.found∨t'.found.length≤100:=by exact .inl rfl):TV c t':=by
 refine ⟨hpc,fun _=>by rw [ho];exact H.ops hp,wk,p5,p7,nd,pv,cr,nx,hsn.elim (fun h=>by rw [h];exact H.sn) fun h=>h,?_,?_,hfo.elim (fun h=>by rw [h];exact H.lo) fun h=>h,?_,?_,?_,?_,?_,?_⟩
 ·rw [hf];exact H.lf
 ·rw [hl];exact H.ll
 ·rw [hb];exact H.lb
 ·rw [hw];exact H.lw
 ·rw [hb];exact H.bf
 ·rw [hw];exact H.wf
 ·rw [hf];exact H.fr
 ·rw [hl];exact H.lm
theorem TV.end {c:Cf} {t:Th} (H:TV c t) {r:Rs}:TV c (endT t r):=by
 refine ⟨pcOK 0 (by simp [pcL]),fun h=>absurd rfl h,fun h=>?_,fun h=>?_,fun h=>?_,Vp,Vp,Vp,Xcr,H.sn,H.lf,H.ll,by simp [endT,clr],H.lb,H.lw,H.bf,H.wf,H.fr,H.lm⟩
 ·simp [endT] at h
 ·simp [endT] at h
 ·simp [endT] at h
theorem TI.end {c:Cf} {t:Th} {n:Nat} {r:Rs} (H:TI c t n):TI c (endT t r) n:=by
 refine ⟨by simp [endT,clr,I64],by simp [endT],by simp [endT],by simp [endT],by simp [endT,clr],by simp [endT],?_⟩
 have:=H.to
 simp [endT,clr]
 omega
end
noncomputable section
theorem TI.go {c:Cf} {t:Th} {n:Nat} (I:TI c t n) (t':Th) (s6:I64 t'.seen) (hin:30≤t'.pc∧t'.pc≤45→30≤t.pc∧t.pc≤45)
 (w1:t'.pc=31→0≤t'.seen∧t'.seen<c.cap:=by simp) (ss:t'.pc=18∨t'.pc=40∨t'.pc=44→1≤t'.seen∧t'.seen≤c.cm:=by simp)
 (sb:t'.pc=2∨t'.pc=3∨t'.pc=4→1≤t'.seen∧t'.seen<c.cm:=by simp) (f5:t'.pc=50∨t'.pc=70→(t'.found.length:Int)≤t'.pos:=by simp)
 (fo:t'.found=t.found∨t'.found.length≤8:=by exact .inl rfl)
 (hl:t'.limbo=t.limbo:=by rfl) (hb:t'.buf=t.buf:=by rfl) (hw:t'.work=t.work:=by rfl):TI c t' n:=by
 refine ⟨s6,w1,ss,sb,fo.elim (fun h=>by rw [h];exact I.fo) fun h=>h,f5,?_⟩
 have:=I.to
 rw [hl,hb,hw]
 by_cases h:30≤t'.pc∧t'.pc≤45
 ·rw [if_pos h];rw [if_pos (hin h)] at this;exact this
 ·rw [if_neg h];omega
theorem Xip {h:Int} (hh:isH h=true):2≤h∧h<2000000:=by
 unfold isH at hh
 have:=of_decide_eq_true hh
 omega
theorem Q8 {c:Cf} {h:Int} (hl:lnkB c h=true):I64 h:=by
 unfold lnkB Y4 at hl
 simp only [Bool.or_eq_true,Bool.and_eq_true,decide_eq_true_eq] at hl
 rcases hl with h0 | h0
 ·unfold I64;omega
 ·have:=Xip h0.1.1
  unfold I64;omega
theorem Xsu {c:Cf} {h:Int} (hz:Vg c h=true):I64 h:=by
 rw [←Wm] at hz
 unfold unmk at hz
 by_cases hm:isMk h=true
 ·rw [if_pos hm] at hz
  unfold lnkB Y4 at hz
  simp only [Bool.or_eq_true,Bool.and_eq_true,decide_eq_true_eq] at hz
  unfold I64
  rcases hz with h0 | h0
  ·omega
  ·have:=Xip h0.1.1
   omega
 ·rw [if_neg hm] at hz
  exact Q8 hz
theorem Vu {c:Cf} {t:Th} (T:TV c t) (hp:t.pc≠0):0≤t.op.key∧t.op.key<c.keys∧0≤t.op.v∧t.op.v≤99:=by
 obtain ⟨h1,h2⟩:=T.ops hp
 unfold Vx at h1
 refine ⟨?_,h2,?_⟩
 ·split at h1
  ·have:=of_decide_eq_true h1;omega
  ·split at h1
   ·have:=of_decide_eq_true h1;omega
   ·split at h1
    ·have:=of_decide_eq_true h1;omega
    ·simp at h1
 ·split at h1
  ·have:=of_decide_eq_true h1;omega
  ·split at h1
   ·have:=of_decide_eq_true h1;omega
   ·split at h1
    ·have:=of_decide_eq_true h1;omega
    ·simp at h1
theorem X2q {c:Cf} {e:Ent} (h:(Zt e=true∧e.key<c.keys)∧Y4 c e.h=true):0≤e.key∧e.key<c.keys:=by
 have h1:=h.1.1
 unfold Zt inB at h1
 simp only [Bool.and_eq_true,decide_eq_true_eq] at h1
 omega
theorem Vq {c:Cf} {t:Th} (T:TV c t) (hp:t.pc≠0):0≤wKey t∧wKey t<c.keys:=by
 have hk:=Vu T hp
 unfold wKey
 split
 ·omega
 ·split
  ·omega
  ·rename_i e w hw
   exact X2q (T.wf e (by rw [hw];simp))
theorem PutOK.head {s:Sta} (H:CV s) {k v:Int} (h0:0≤k) (h1:k<s.c.keys) (hv:lnkB s.c v=true):PutOK s (X2 s.c k) v:=by
 have hb:=Xm H.cf
 rw [Xfx H.cf h0 h1]
 exact ⟨Q8 hv,by omega,by omega,fun _ _ _ _=>hv,by omega,by omega⟩
theorem PutOK.lnk {s:Sta} (H:CV s) {t:Th} {v:Int} (T:TV s.c t) (hp:t.pc≠0) (hv:lnkB s.c v=true):PutOK s (lnkA s t) v:=by
 unfold lnkA
 split
 ·exact .head H (Vq T hp).1 (Vq T hp).2 hv
 ·exact .fld H (Q8 hv) (by omega) (by omega) (fun _=>Xio hv)
theorem Xqs {c:Cf} {t:Th} {n:Nat} {a b:Int} (T:TV c t) (I:TI c t n) (hp:t.pc≠0) (hn:n≤100) (ha:lnkB c a=true) (hb:lnkB c b=true) (hin:¬(30≤t.pc∧t.pc≤45)) :
 TV c (goOn {t with prev:=a,curr:=b})∧TI c (goOn {t with prev:=a,curr:=b}) n:=by
 unfold goOn
 dsimp only
 split
 ·exact ⟨T.to hp _ (pcOK 11 (by simp [pcL])) T.nd ha hb T.nx (by simp) (by simp) (by simp),I.go _ I.s6 (by simp)⟩
 ·split
  ·exact ⟨T.to hp _ (pcOK 20 (by simp [pcL])) T.nd ha hb T.nx (by simp) (by simp) (by simp),I.go _ I.s6 (by simp)⟩
  ·split
   ·exact ⟨T.to hp _ (pcOK 62 (by simp [pcL])) T.nd ha hb T.nx (by simp) (by simp) (by simp),I.go _ I.s6 (by simp)⟩
   ·rename_i e w hw
    have ht:=I.to
    rw [hw,List.length_cons] at ht
    have hl:t.limbo.length+1≤100:=by omega
    have he:=T.wf e (by rw [hw];simp)
    have hlw:=T.lw
    rw [hw,List.length_cons] at hlw
    constructor
    ·refine ⟨?_,fun _=>T.ops hp,?_,?_,?_,T.nd,ha,hb,T.nx,T.sn,T.lf,?_,T.lo,T.lb,?_,T.bf,?_,T.fr,?_⟩
     ·split
      ·exact pcOK 62 (by simp [pcL])
      ·exact pcOK 60 (by simp [pcL])
     ·dsimp only;split
      ·omega
      ·intro _;assumption
     ·dsimp only;split <;> omega
     ·dsimp only;split <;> omega
     ·simp;omega
     ·dsimp only;omega
     ·intro x hx;exact T.wf x (by rw [hw];simp;exact .inr hx)
     ·intro x hx
      simp only [List.mem_append,List.mem_singleton] at hx
      rcases hx with h | h
      ·exact T.lm x h
      ·rw [h];exact he.2
    ·refine ⟨I.s6,?_,?_,?_,I.fo,?_,?_⟩
     ·dsimp only;split <;> omega
     ·dsimp only;split <;> omega
     ·dsimp only;split <;> omega
     ·dsimp only;split <;> omega
     ·simp only [List.length_append,List.length_singleton]
      rw [if_neg (by split <;> omega)]
      omega
theorem TV.clear {c:Cf} {t:Th} (T:TV c t) (hp:t.pc≠0) (hb:Yp c=true) {k:Int} (hk:k=50∨k=70):TV c {clr t with pc:=k}:=by
 have hb:=Xm hb
 refine ⟨?_,fun _=>T.ops hp,?_,?_,?_,Vp,Vp,Vp,Xcr,T.sn,T.lf,T.ll,by simp [clr],T.lb,T.lw,T.bf,T.wf,T.fr,T.lm⟩
 ·rcases hk with rfl | rfl
  ·exact pcOK 50 (by simp [pcL])
  ·exact pcOK 70 (by simp [pcL])
 ·dsimp only;omega
 ·intro _;show (0:Int)≤0∧(0:Int)≤_;omega
 ·intro _;show (0:Int)≤0∧(0:Int)≤_;omega
theorem TI.clear {c:Cf} {t:Th} {n:Nat} (I:TI c t n) {k:Int} (hk:k=50∨k=70):TI c {clr t with pc:=k} n:=by
 refine ⟨by simp [clr,I64],?_,?_,?_,by simp [clr],by simp [clr],?_⟩
 ·dsimp only;omega
 ·dsimp only;omega
 ·dsimp only;omega
 ·have:=I.to
  dsimp only
  rw [if_neg (by omega)]
  simp only [clr]
  omega
theorem X4v {c:Cf} {t:Th} {n:Nat} (T:TV c t) (I:TI c t n) (hp:t.pc≠0) (hb:Yp c=true):TV c (fin c t)∧TI c (fin c t) n:=by
 unfold fin
 split
 ·exact ⟨T.clear hp hb (.inr rfl),I.clear (.inr rfl)⟩
 ·exact ⟨T.end,I.end⟩
theorem Xv7 {c:Cf} {i g:Int} (hc:c.cap≤24) (hi:0≤i∧i<c.cap) (hg:0≤g∧g≤9998):lnkB c (mkH i g)=true:=by
 unfold mkH
 rw [if_neg (by omega)]
 have h1:isH ((g*64+i+1)*2)=true:=by unfold isH;exact decide_eq_true (by omega)
 have h2:idxB ((g*64+i+1)*2)=i:=by unfold idxB;rw [if_pos h1];omega
 have h3:isMk ((g*64+i+1)*2)=false:=by
  unfold isMk
  rw [h1]
  simp only [Bool.true_and,Bool.or_eq_false_iff,decide_eq_false_iff_not]
  omega
 unfold lnkB Y4
 rw [h1,h2,h3]
 simp
 omega
theorem X0l {h:Int}:unmk (mrk h)=unmk h:=by
 unfold mrk
 split
 ·rename_i hc
  have hm:isMk h=false:=by
   rcases hc with rfl | ⟨h1,h2⟩
   ·exact X0c
   ·have:=Xip h1
    unfold isMk;rw [h1];simp;omega
  have hm2:isMk (h+1)=true:=by
   rcases hc with rfl | ⟨h1,h2⟩
   ·unfold isMk;simp
   ·have hh:isH (h+1)=true:=by
     unfold isH at h1 ⊢
     have:=of_decide_eq_true h1
     exact decide_eq_true (by omega)
    unfold isMk;rw [hh];simp;omega
  unfold unmk
  rw [hm,hm2]
  simp
 ·rfl
theorem Xqt {c:Cf}:∀ {l:List Int} {g f:List Int},(∀ x∈l,Y4 c x=true)→(g.length:Int)=c.cap→(∀ i:Nat,i<g.length→0≤g.getD i default∧g.getD i default≤9998)→f.length≤100→(∀ i∈f,0≤i∧i≤c.cap - 1) →
 ((l.foldl Xz (g,f)).1.length:Int)=c.cap∧(∀ i:Nat,i<(l.foldl Xz (g,f)).1.length→0≤(l.foldl Xz (g,f)).1.getD i default∧(l.foldl Xz (g,f)).1.getD i default≤9998)∧(l.foldl Xz (g,f)).2.length≤100∧∀ i∈(l.foldl Xz (g,f)).2,0≤i∧i≤c.cap - 1
 | [],g,f,_,h1,h2,h3,h4=>⟨h1,h2,h3,h4⟩
 | x::l,g,f,h0,h1,h2,h3,h4=>by
   rw [List.foldl_cons]
   have hx:=Y3 (h0 x (by simp))
   have hi:(idxB x).toNat<g.length:=by omega
   have hl:=fun y hy=>h0 y (List.mem_cons_of_mem _ hy)
   unfold Xz
   dsimp only
   split
   ·rename_i hc
    refine Xqt hl ?_ ?_ ?_ ?_
    ·simpa using h1
    ·intro i hi2
     rw [List.length_set] at hi2
     rw [List.getD_eq_getElem?_getD,List.getElem?_set]
     by_cases e:(idxB x).toNat=i
     ·rw [if_pos e,if_pos (by omega)]
      have:=h2 _ hi
      show 0≤_+1∧_+1≤_
      omega
     ·rw [if_neg e,←List.getD_eq_getElem?_getD];exact h2 i hi2
    ·simp;omega
    ·intro i hi2
     rcases List.mem_append.1 hi2 with h | h
     ·exact h4 i h
     ·have:=List.mem_singleton.1 h;omega
   ·exact Xqt hl h1 h2 h3 h4
theorem g1 {s:Sta} {p:Nat} {t:Th} {n:Nat} (H:CV s) (T:TV s.c t) (I:TI s.c t n) (hn:n≤100) (h:t.pc=1):Good s p n (sk1 s p t):=by
 have hp:t.pc≠0:=by rw [h];decide
 have hb:=Xm H.cf
 unfold sk1
 by_cases hc:cl s 0≥s.c.cm
 ·rw [if_pos hc]
  exact .id H (T.to hp _ (pcOK 5 (by simp [pcL])) T.nd T.pv T.cr T.nx (by simp) (by simp) (by simp)) (I.go _ H.clock (by simp))
 ·rw [if_neg hc]
  exact .id H (T.to hp _ (pcOK 2 (by simp [pcL])) T.nd T.pv T.cr T.nx (by simp) (by simp) (by simp)) (I.go _ H.clock (by simp) (sb:=fun _=>⟨H.ck.1,by show cl s 0<_;omega⟩))
theorem g2 {s:Sta} {p:Nat} {t:Th} {n:Nat} (H:CV s) (T:TV s.c t) (I:TI s.c t n) (hn:n≤100) (h:t.pc=2):Good s p n (sk2 s p t):=by
 have hp:t.pc≠0:=by rw [h];decide
 have hb:=Xm H.cf
 unfold sk2
 exact .pt H (.own H I.s6 (Xug H.cf)) (T.to hp _ (pcOK 3 (by simp [pcL])) T.nd T.pv T.cr T.nx (by simp) (by simp) (by simp)) (I.go _ I.s6 (by simp) (sb:=fun _=>I.sb (by omega)))
theorem g3 {s:Sta} {p:Nat} {t:Th} {n:Nat} (H:CV s) (T:TV s.c t) (I:TI s.c t n) (hn:n≤100) (h:t.pc=3):Good s p n (sk3 s p t):=by
 have hp:t.pc≠0:=by rw [h];decide
 have hb:=Xm H.cf
 unfold sk3
 by_cases hc:cl s 0=t.seen
 ·rw [if_pos hc]
  exact .rty H (T.to hp _ (pcOK 4 (by simp [pcL])) T.nd T.pv T.cr T.nx (by simp) (by simp) (by simp)) (I.go _ I.s6 (by simp) (sb:=fun _=>I.sb (by omega)))
 ·rw [if_neg hc]
  exact .rty H (T.to hp _ (pcOK 1 (by simp [pcL])) T.nd T.pv T.cr T.nx (by simp) (by simp) (by simp)) (I.go _ I.s6 (by simp))
theorem g4 {s:Sta} {p:Nat} {t:Th} {n:Nat} (H:CV s) (T:TV s.c t) (I:TI s.c t n) (hn:n≤100) (h:t.pc=4):Good s p n (sk4 s p t):=by
 have hp:t.pc≠0:=by rw [h];decide
 have hb:=Xm H.cf
 unfold sk4
 have hs:=I.sb (by omega)
 have T2:TV s.c {t with snap:=t.seen}:=T.to hp _ T.pcs T.nd T.pv T.cr T.nx (by simp [h]) (by simp [h]) (by simp [h]) (hsn:=.inr (by show 0≤t.seen∧t.seen≤99;omega))
 have I2:TI s.c {t with snap:=t.seen} n:=⟨I.s6,I.w1,I.ss,I.sb,I.fo,I.f5,I.to⟩
 unfold swp
 split
 ·exact .pt H ⟨by unfold I64;omega,fun _=>by omega,by omega,by omega,by omega,by omega⟩ T2.end I2.end
 ·exact .id H T2.end I2.end
theorem g5 {s:Sta} {p:Nat} {t:Th} {n:Nat} (H:CV s) (T:TV s.c t) (I:TI s.c t n) (hn:n≤100) (h:t.pc=5):Good s p n (sk5 s p t):=by
 have hp:t.pc≠0:=by rw [h];decide
 have hb:=Xm H.cf
 unfold sk5
 exact .pt H (.own H (by unfold I64;omega) (Xug H.cf)) T.end I.end
theorem g10 {s:Sta} {p:Nat} {t:Th} {n:Nat} (H:CV s) (T:TV s.c t) (I:TI s.c t n) (hn:n≤100) (h:t.pc=10):Good s p n (sk10 s p t):=by
 have hp:t.pc≠0:=by rw [h];decide
 have hb:=Xm H.cf
 unfold sk10
 have hw:=Vq T hp
 have hk:=Xqs T I hp hn Vp (by rw [Wm];exact Xio (H.head hw.1 hw.2)) (by omega)
 exact .id H hk.1 hk.2
theorem g11 {s:Sta} {p:Nat} {t:Th} {n:Nat} (H:CV s) (T:TV s.c t) (I:TI s.c t n) (hn:n≤100) (h:t.pc=11):Good s p n (sk11 s p t):=by
 have hp:t.pc≠0:=by rw [h];decide
 have hb:=Xm H.cf
 unfold sk11
 exact .pt H (.own H (Q8 T.cr) (Xcs H.cf)) (T.to hp _ (pcOK 12 (by simp [pcL])) T.nd T.pv T.cr T.nx (by simp) (by simp) (by simp)) (I.go _ I.s6 (by simp))
theorem g12 {s:Sta} {p:Nat} {t:Th} {n:Nat} (H:CV s) (T:TV s.c t) (I:TI s.c t n) (hn:n≤100) (h:t.pc=12):Good s p n (sk12 s p t):=by
 have hp:t.pc≠0:=by rw [h];decide
 have hb:=Xm H.cf
 unfold sk12
 by_cases hc:ld s (lnkA s t)=t.curr
 ·rw [if_pos hc]
  rcases @Xln s t with e | e <;> rw [e]
  ·exact .rty H (T.to hp _ (pcOK 13 (by simp [pcL])) T.nd T.pv T.cr T.nx (by simp) (by simp) (by simp)) (I.go _ I.s6 (by simp))
  ·exact .frtr H (T.to hp _ (pcOK 13 (by simp [pcL])) T.nd T.pv T.cr T.nx (by simp) (by simp) (by simp)) (I.go _ I.s6 (by simp))
 ·rw [if_neg hc]
  rcases @Xln s t with e | e <;> rw [e]
  ·exact .rty H (T.to hp _ (pcOK 10 (by simp [pcL])) T.nd T.pv T.cr T.nx (by simp) (by simp) (by simp)) (I.go _ I.s6 (by simp))
  ·exact .frtr H (T.to hp _ (pcOK 10 (by simp [pcL])) T.nd T.pv T.cr T.nx (by simp) (by simp) (by simp)) (I.go _ I.s6 (by simp))
theorem g13 {s:Sta} {p:Nat} {t:Th} {n:Nat} (H:CV s) (T:TV s.c t) (I:TI s.c t n) (hn:n≤100) (h:t.pc=13):Good s p n (sk13 s p t):=by
 have hp:t.pc≠0:=by rw [h];decide
 have hb:=Xm H.cf
 unfold sk13
 have ho:=H.older (h:=t.curr)
 split
 ·exact .ft H (T.to hp _ (pcOK 14 (by simp [pcL])) T.nd T.pv T.cr ho (by simp) (by simp) (by simp)) (I.go _ I.s6 (by simp))
 ·split
  ·exact .ft H (T.to hp _ (pcOK 16 (by simp [pcL])) T.nd T.pv T.cr ho (by simp) (by simp) (by simp)) (I.go _ I.s6 (by simp))
  ·exact .ft H (T.to hp _ (pcOK 15 (by simp [pcL])) T.nd T.pv T.cr ho (by simp) (by simp) (by simp)) (I.go _ I.s6 (by simp))
theorem g14 {s:Sta} {p:Nat} {t:Th} {n:Nat} (H:CV s) (T:TV s.c t) (I:TI s.c t n) (hn:n≤100) (h:t.pc=14):Good s p n (sk14 s p t):=by
 have hp:t.pc≠0:=by rw [h];decide
 have hb:=Xm H.cf
 unfold sk14
 have hv:lnkB s.c (unmk t.next)=true:=by rw [Wm];exact T.nx
 split
 ·have hk:=Xqs T I hp hn T.pv hv (by omega)
  rcases @Xln s t with e | e <;> rw [e]
  ·exact .pt H (.lnk H T hp hv) hk.1 hk.2
  ·exact .fput H (.lnk H T hp hv) hk.1 hk.2
 ·rcases @Xln s t with e | e <;> rw [e]
  ·exact .rty H (T.to hp _ (pcOK 10 (by simp [pcL])) T.nd T.pv T.cr T.nx (by simp) (by simp) (by simp)) (I.go _ I.s6 (by simp))
  ·exact .frtr H (T.to hp _ (pcOK 10 (by simp [pcL])) T.nd T.pv T.cr T.nx (by simp) (by simp) (by simp)) (I.go _ I.s6 (by simp))
theorem g15 {s:Sta} {p:Nat} {t:Th} {n:Nat} (H:CV s) (T:TV s.c t) (I:TI s.c t n) (hn:n≤100) (h:t.pc=15):Good s p n (sk15 s p t):=by
 have hp:t.pc≠0:=by rw [h];decide
 have hb:=Xm H.cf
 unfold sk15
 have hv:lnkB s.c (unmk t.next)=true:=by rw [Wm];exact T.nx
 have hk:=Xqs T I hp hn T.cr hv (by omega)
 exact .pt H (.own H (Q8 T.cr) (Xcs H.cf)) hk.1 hk.2
theorem g16 {s:Sta} {p:Nat} {t:Th} {n:Nat} (H:CV s) (T:TV s.c t) (I:TI s.c t n) (hn:n≤100) (h:t.pc=16):Good s p n (sk16 s p t):=by
 have hp:t.pc≠0:=by rw [h];decide
 have hb:=Xm H.cf
 unfold sk16
 split
 ·exact .ft H (T.to hp _ (pcOK 17 (by simp [pcL])) T.nd T.pv T.cr T.nx (by simp) (by simp) (by simp)) (I.go _ I.s6 (by simp))
 ·split
  ·exact .ft H (T.to hp _ (pcOK 19 (by simp [pcL])) T.nd T.pv T.cr T.nx (by simp) (by simp) (by simp)) (I.go _ I.s6 (by simp))
  ·exact .ft H (T.to hp _ (pcOK 15 (by simp [pcL])) T.nd T.pv T.cr T.nx (by simp) (by simp) (by simp)) (I.go _ I.s6 (by simp))
theorem g17 {s:Sta} {p:Nat} {t:Th} {n:Nat} (H:CV s) (T:TV s.c t) (I:TI s.c t n) (hn:n≤100) (h:t.pc=17):Good s p n (sk17 s p t):=by
 have hp:t.pc≠0:=by rw [h];decide
 have hb:=Xm H.cf
 unfold sk17
 exact .id H (T.to hp _ (pcOK 18 (by simp [pcL])) T.nd T.pv T.cr T.nx (by simp) (by simp) (by simp)) (I.go _ H.clock (by simp) (ss:=fun _=>H.ck))
theorem g18 {s:Sta} {p:Nat} {t:Th} {n:Nat} (H:CV s) (T:TV s.c t) (I:TI s.c t n) (hn:n≤100) (h:t.pc=18):Good s p n (sk18 s p t):=by
 have hp:t.pc≠0:=by rw [h];decide
 have hb:=Xm H.cf
 unfold sk18
 have hs:=I.ss (by omega)
 exact .sw H (fun _=>.fld H I.s6 (by omega) (fun _=>by omega) (by omega)) (T.to hp _ (pcOK 16 (by simp [pcL])) T.nd T.pv T.cr T.nx (by simp) (by simp) (by simp)) (I.go _ I.s6 (by simp))
theorem g19 {s:Sta} {p:Nat} {t:Th} {n:Nat} (H:CV s) (T:TV s.c t) (I:TI s.c t n) (hn:n≤100) (h:t.pc=19):Good s p n (sk19 s p t):=by
 have hp:t.pc≠0:=by rw [h];decide
 have hb:=Xm H.cf
 unfold sk19
 exact .ft H (T.to hp _ (pcOK 20 (by simp [pcL])) T.nd T.pv T.cr T.nx (by simp) (by simp) (by simp)) (I.go _ I.s6 (by simp))
theorem g20 {s:Sta} {p:Nat} {t:Th} {n:Nat} (H:CV s) (T:TV s.c t) (I:TI s.c t n) (hn:n≤100) (h:t.pc=20):Good s p n (sk20 s p t):=by
 have hp:t.pc≠0:=by rw [h];decide
 have hb:=Xm H.cf
 unfold sk20
 exact .pt H (.own H (by unfold I64;omega) (Xcs H.cf)) (T.to hp _ (pcOK 21 (by simp [pcL])) T.nd T.pv T.cr T.nx (by simp) (by simp) (by simp)) (I.go _ I.s6 (by simp))
theorem g21 {s:Sta} {p:Nat} {t:Th} {n:Nat} (H:CV s) (T:TV s.c t) (I:TI s.c t n) (hn:n≤100) (h:t.pc=21):Good s p n (sk21 s p t):=by
 have hp:t.pc≠0:=by rw [h];decide
 have hb:=Xm H.cf
 unfold sk21
 exact .pt H (.own H (by unfold I64;omega) (Xcs H.cf)) T.end I.end
theorem g30 {s:Sta} {p:Nat} {t:Th} {n:Nat} (H:CV s) (T:TV s.c t) (I:TI s.c t n) (hn:n≤100) (h:t.pc=30):Good s p n (sk30 s p t):=by
 have hp:t.pc≠0:=by rw [h];decide
 have hb:=Xm H.cf
 unfold sk30
 split
 ·exact .id H T.end I.end
 ·exact .id H (T.to hp _ (pcOK 31 (by simp [pcL])) T.nd T.pv T.cr T.nx (by simp) (by simp) (by simp)) (I.go _ (H.cell6 (by have:=H.lc;omega)) (by simp [h]) (w1:=fun _=>⟨H.ar.1,by show cl s 1<_;omega⟩))
theorem g31 {s:Sta} {p:Nat} {t:Th} {n:Nat} (H:CV s) (T:TV s.c t) (I:TI s.c t n) (hn:n≤100) (h:t.pc=31):Good s p n (sk31 s p t):=by
 have hp:t.pc≠0:=by rw [h];decide
 have hb:=Xm H.cf
 unfold sk31
 have hs:=I.w1 h
 split
 ·have hg:=H.gn t.seen.toNat (by have:=H.lg;omega)
  exact .pt H ⟨by unfold I64;omega,by omega,fun _=>by omega,by omega,by omega,by omega⟩ (T.to hp _ (pcOK 32 (by simp [pcL])) (Xv7 hb.2.2.1.2 hs hg) T.pv T.cr T.nx (by simp) (by simp) (by simp)) (I.go _ I.s6 (by simp [h]))
 ·exact .rty H (T.to hp _ (pcOK 30 (by simp [pcL])) T.nd T.pv T.cr T.nx (by simp) (by simp) (by simp)) (I.go _ I.s6 (by simp [h]))
theorem g32 {s:Sta} {p:Nat} {t:Th} {n:Nat} (H:CV s) (T:TV s.c t) (I:TI s.c t n) (hn:n≤100) (h:t.pc=32):Good s p n (sk32 s p t):=by
 have hp:t.pc≠0:=by rw [h];decide
 have hb:=Xm H.cf
 unfold sk32
 have ho:=Vu T hp
 exact .fput H (.fld H (by unfold I64;omega) (by omega) (by omega) (by omega)) (T.to hp _ (pcOK 33 (by simp [pcL])) T.nd T.pv T.cr T.nx (by simp) (by simp) (by simp)) (I.go _ I.s6 (by simp [h]))
theorem g33 {s:Sta} {p:Nat} {t:Th} {n:Nat} (H:CV s) (T:TV s.c t) (I:TI s.c t n) (hn:n≤100) (h:t.pc=33):Good s p n (sk33 s p t):=by
 have hp:t.pc≠0:=by rw [h];decide
 have hb:=Xm H.cf
 unfold sk33
 exact .fput H (.fld H (by unfold I64;omega) (by omega) (fun _=>by omega) (by omega)) (T.to hp _ (pcOK 34 (by simp [pcL])) T.nd T.pv T.cr T.nx (by simp) (by simp) (by simp)) (I.go _ I.s6 (by simp [h]))
theorem g34 {s:Sta} {p:Nat} {t:Th} {n:Nat} (H:CV s) (T:TV s.c t) (I:TI s.c t n) (hn:n≤100) (h:t.pc=34):Good s p n (sk34 s p t):=by
 have hp:t.pc≠0:=by rw [h];decide
 have hb:=Xm H.cf
 unfold sk34
 exact .pt H (.own H (Q8 T.nd) (Xcs H.cf)) (T.to hp _ (pcOK 35 (by simp [pcL])) T.nd T.pv T.cr T.nx (by simp) (by simp) (by simp)) (I.go _ I.s6 (by simp [h]))
theorem g35 {s:Sta} {p:Nat} {t:Th} {n:Nat} (H:CV s) (T:TV s.c t) (I:TI s.c t n) (hn:n≤100) (h:t.pc=35):Good s p n (sk35 s p t):=by
 have hp:t.pc≠0:=by rw [h];decide
 have hb:=Xm H.cf
 unfold sk35
 have ho:=Vu T hp
 have hv:lnkB s.c (unmk (ld s (X2 s.c t.op.key)))=true:=by rw [Wm];exact Xio (H.head ho.1 ho.2.1)
 split
 ·exact .id H (T.to hp _ (pcOK 41 (by simp [pcL])) T.nd T.pv hv T.nx (by simp) (by simp) (by simp)) (I.go _ I.s6 (by simp [h]))
 ·exact .id H (T.to hp _ (pcOK 36 (by simp [pcL])) T.nd T.pv hv T.nx (by simp) (by simp) (by simp)) (I.go _ I.s6 (by simp [h]))
theorem g36 {s:Sta} {p:Nat} {t:Th} {n:Nat} (H:CV s) (T:TV s.c t) (I:TI s.c t n) (hn:n≤100) (h:t.pc=36):Good s p n (sk36 s p t):=by
 have hp:t.pc≠0:=by rw [h];decide
 have hb:=Xm H.cf
 unfold sk36
 exact .pt H (.own H (Q8 T.cr) (Xcs H.cf)) (T.to hp _ (pcOK 37 (by simp [pcL])) T.nd T.pv T.cr T.nx (by simp) (by simp) (by simp)) (I.go _ I.s6 (by simp [h]))
theorem g37 {s:Sta} {p:Nat} {t:Th} {n:Nat} (H:CV s) (T:TV s.c t) (I:TI s.c t n) (hn:n≤100) (h:t.pc=37):Good s p n (sk37 s p t):=by
 have hp:t.pc≠0:=by rw [h];decide
 have hb:=Xm H.cf
 unfold sk37
 split
 ·exact .rty H (T.to hp _ (pcOK 38 (by simp [pcL])) T.nd T.pv T.cr T.nx (by simp) (by simp) (by simp)) (I.go _ I.s6 (by simp [h]))
 ·exact .rty H (T.to hp _ (pcOK 35 (by simp [pcL])) T.nd T.pv T.cr T.nx (by simp) (by simp) (by simp)) (I.go _ I.s6 (by simp [h]))
theorem g38 {s:Sta} {p:Nat} {t:Th} {n:Nat} (H:CV s) (T:TV s.c t) (I:TI s.c t n) (hn:n≤100) (h:t.pc=38):Good s p n (sk38 s p t):=by
 have hp:t.pc≠0:=by rw [h];decide
 have hb:=Xm H.cf
 unfold sk38
 split
 ·exact .ft H (T.to hp _ (pcOK 39 (by simp [pcL])) T.nd T.pv T.cr T.nx (by simp) (by simp) (by simp)) (I.go _ I.s6 (by simp [h]))
 ·exact .ft H (T.to hp _ (pcOK 41 (by simp [pcL])) T.nd T.pv T.cr T.nx (by simp) (by simp) (by simp)) (I.go _ I.s6 (by simp [h]))
theorem g39 {s:Sta} {p:Nat} {t:Th} {n:Nat} (H:CV s) (T:TV s.c t) (I:TI s.c t n) (hn:n≤100) (h:t.pc=39):Good s p n (sk39 s p t):=by
 have hp:t.pc≠0:=by rw [h];decide
 have hb:=Xm H.cf
 unfold sk39
 exact .id H (T.to hp _ (pcOK 40 (by simp [pcL])) T.nd T.pv T.cr T.nx (by simp) (by simp) (by simp)) (I.go _ H.clock (by simp [h]) (ss:=fun _=>H.ck))
theorem g40 {s:Sta} {p:Nat} {t:Th} {n:Nat} (H:CV s) (T:TV s.c t) (I:TI s.c t n) (hn:n≤100) (h:t.pc=40):Good s p n (sk40 s p t):=by
 have hp:t.pc≠0:=by rw [h];decide
 have hb:=Xm H.cf
 unfold sk40
 have hs:=I.ss (by omega)
 exact .sw H (fun _=>.fld H I.s6 (by omega) (fun _=>by omega) (by omega)) (T.to hp _ (pcOK 38 (by simp [pcL])) T.nd T.pv T.cr T.nx (by simp) (by simp) (by simp)) (I.go _ I.s6 (by simp [h]))
theorem g41 {s:Sta} {p:Nat} {t:Th} {n:Nat} (H:CV s) (T:TV s.c t) (I:TI s.c t n) (hn:n≤100) (h:t.pc=41):Good s p n (sk41 s p t):=by
 have hp:t.pc≠0:=by rw [h];decide
 have hb:=Xm H.cf
 unfold sk41
 exact .fput H (.fld H (Q8 T.cr) (by omega) (by omega) (fun _=>Xio T.cr)) (T.to hp _ (pcOK 42 (by simp [pcL])) T.nd T.pv T.cr T.nx (by simp) (by simp) (by simp)) (I.go _ I.s6 (by simp [h]))
theorem g42 {s:Sta} {p:Nat} {t:Th} {n:Nat} (H:CV s) (T:TV s.c t) (I:TI s.c t n) (hn:n≤100) (h:t.pc=42):Good s p n (sk42 s p t):=by
 have hp:t.pc≠0:=by rw [h];decide
 have hb:=Xm H.cf
 unfold sk42
 have ho:=Vu T hp
 split
 ·exact .pt H (.head H ho.1 ho.2.1 T.nd) (T.to hp _ (pcOK 43 (by simp [pcL])) T.nd T.pv T.cr T.nx (by simp) (by simp) (by simp)) (I.go _ I.s6 (by simp [h]))
 ·exact .rty H (T.to hp _ (pcOK 35 (by simp [pcL])) T.nd T.pv T.cr T.nx (by simp) (by simp) (by simp)) (I.go _ I.s6 (by simp [h]))
theorem g43 {s:Sta} {p:Nat} {t:Th} {n:Nat} (H:CV s) (T:TV s.c t) (I:TI s.c t n) (hn:n≤100) (h:t.pc=43):Good s p n (sk43 s p t):=by
 have hp:t.pc≠0:=by rw [h];decide
 have hb:=Xm H.cf
 unfold sk43
 exact .id H (T.to hp _ (pcOK 44 (by simp [pcL])) T.nd T.pv T.cr T.nx (by simp) (by simp) (by simp)) (I.go _ H.clock (by simp [h]) (ss:=fun _=>H.ck))
theorem g44 {s:Sta} {p:Nat} {t:Th} {n:Nat} (H:CV s) (T:TV s.c t) (I:TI s.c t n) (hn:n≤100) (h:t.pc=44):Good s p n (sk44 s p t):=by
 have hp:t.pc≠0:=by rw [h];decide
 have hb:=Xm H.cf
 unfold sk44
 have hs:=I.ss (by omega)
 exact .sw H (fun _=>.fld H I.s6 (by omega) (fun _=>by omega) (by omega)) (T.to hp _ (pcOK 45 (by simp [pcL])) T.nd T.pv T.cr T.nx (by simp) (by simp) (by simp)) (I.go _ I.s6 (by simp [h]))
theorem g45 {s:Sta} {p:Nat} {t:Th} {n:Nat} (H:CV s) (T:TV s.c t) (I:TI s.c t n) (hn:n≤100) (h:t.pc=45):Good s p n (sk45 s p t):=by
 have hp:t.pc≠0:=by rw [h];decide
 have hb:=Xm H.cf
 unfold sk45
 have ho:=Vu T hp
 have ht:=I.to
 rw [if_pos (by omega)] at ht
 split
 ·rename_i hc
  have hnd:Y4 s.c t.curr=true:=by
   have:=T.cr
   unfold lnkB at this
   simp only [Bool.or_eq_true,Bool.and_eq_true,decide_eq_true_eq] at this
   rcases this with h0 | h0
   ·exact absurd h0 hc.1
   ·exact h0.1
  refine .ft H ⟨pcOK 46 (by simp [pcL]),fun _=>T.ops hp,by simp,by simp,by simp,T.nd,T.pv,T.cr,T.nx,T.sn,T.lf,T.ll,T.lo,?_,T.lw,?_,T.wf,T.fr,T.lm⟩ ⟨I.s6,by simp,by simp,by simp,I.fo,by simp,?_⟩
  ·simp;omega
  ·intro x hx
   simp only [List.mem_append,List.mem_singleton] at hx
   rcases hx with h1 | h1
   ·exact T.bf x h1
   ·rw [h1];exact ⟨⟨hc.2.1,ho.2.1⟩,hnd⟩
  ·simp only [List.length_append,List.length_singleton]
   rw [if_neg (by omega)]
   omega
 ·exact .ft H (T.to hp _ (pcOK 46 (by simp [pcL])) T.nd T.pv T.cr T.nx (by simp) (by simp) (by simp)) (I.go _ I.s6 (by simp))
theorem g46 {s:Sta} {p:Nat} {t:Th} {n:Nat} (H:CV s) (T:TV s.c t) (I:TI s.c t n) (hn:n≤100) (h:t.pc=46):Good s p n (sk46 s p t):=by
 have hp:t.pc≠0:=by rw [h];decide
 have hb:=Xm H.cf
 unfold sk46
 exact .pt H (.own H (by unfold I64;omega) (Xcs H.cf)) (T.to hp _ (pcOK 47 (by simp [pcL])) T.nd T.pv T.cr T.nx (by simp) (by simp) (by simp)) (I.go _ I.s6 (by simp))
theorem g47 {s:Sta} {p:Nat} {t:Th} {n:Nat} (H:CV s) (T:TV s.c t) (I:TI s.c t n) (hn:n≤100) (h:t.pc=47):Good s p n (sk47 s p t):=by
 have hp:t.pc≠0:=by rw [h];decide
 have hb:=Xm H.cf
 unfold sk47
 split
 ·exact .pt H (.own H (by unfold I64;omega) (Xcs H.cf)) (T.clear hp H.cf (.inl rfl)) (I.clear (.inl rfl))
 ·exact .pt H (.own H (by unfold I64;omega) (Xcs H.cf)) T.end I.end
theorem g50 {s:Sta} {p:Nat} {t:Th} {n:Nat} (H:CV s) (T:TV s.c t) (I:TI s.c t n) (hn:n≤100) (h:t.pc=50):Good s p n (sk50 s p t):=by
 have hp:t.pc≠0:=by rw [h];decide
 have hb:=Xm H.cf
 unfold sk50
 have hps:=T.p5 h
 have hf5:=I.f5 (.inl h)
 have hfl:(fndT t (ld s (annB s.c t.pos))).length≤t.found.length+1:=by unfold fndT;split <;> simp
 split
 ·refine .id H (T.to hp _ T.pcs T.nd T.pv T.cr T.nx (by simp [h]) (fun _=>by show 0≤t.pos+1∧t.pos+1≤_;omega) (by simp [h]) (hfo:=.inr (by show (fndT t _).length≤100;omega))) (I.go _ I.s6 (fun h=>h) (w1:=by simp [h]) (ss:=by simp [h]) (sb:=by simp [h]) (f5:=fun _=>by show ((fndT t _).length:Int)≤t.pos+1;omega) (fo:=.inr (by show (fndT t _).length≤8;omega)))
 ·dsimp only
  generalize hF:fndT t (ld s (annB s.c t.pos))=F at hfl ⊢
  generalize (if t.op.k=5 then -1 else t.op.key)=key
  have hlen:∀ l:List Ent,(l.filter fun e=>!drpB s.c.p key F e).length+(l.filter fun e=>drpB s.c.p key F e).length=l.length:=by
   intro l
   induction l with
   | nil=>rfl
   | cons a l ih =>
     by_cases hd:drpB s.c.p key F a=true
     ·rw [List.filter_cons_of_neg (by simp [hd]),List.filter_cons_of_pos (by simpa using hd)]
      simp only [List.length_cons];omega
     ·rw [List.filter_cons_of_pos (by simpa using hd),List.filter_cons_of_neg (by simpa using hd)]
      simp only [List.length_cons];omega
  have hl:=hlen t.buf
  have ht:=I.to
  have hlw:=T.lw
  have hlb:=T.lb
  have hwl:(t.work++t.buf.filter fun e=>drpB s.c.p key F e).length≤100:=by simp only [List.length_append];omega
  have key2:∀ k:Int,k=60→∀ w:(t.work++t.buf.filter fun e=>drpB s.c.p key F e).length≠0∨k≠60,True:=fun _ _ _=>trivial
  have hW:∀ x∈t.work++t.buf.filter fun e=>drpB s.c.p key F e,(Zt x=true∧x.key<s.c.keys)∧Y4 s.c x.h=true:=by
   intro x hx
   rcases List.mem_append.1 hx with h1 | h1
   ·exact T.wf x h1
   ·exact T.bf x (List.mem_filter.1 h1).1
  split
  ·rename_i hz
   refine .id H ?_ ?_ <;> unfold fin <;> dsimp only <;> split
   ·refine ⟨pcOK 70 (by simp [pcL]),fun _=>T.ops hp,by simp,by simp,fun _=>by show (0:Int)≤0∧(0:Int)≤_;omega,Vp,Vp,Vp,Xcr,T.sn,T.lf,T.ll,by simp [clr],?_,hwl,fun x hx=>T.bf x (List.mem_filter.1 hx).1,hW,T.fr,T.lm⟩
    show (t.buf.filter _).length≤100
    omega
   ·refine ⟨pcOK 0 (by simp [pcL]),fun h=>absurd rfl h,by simp [endT],by simp [endT],by simp [endT],Vp,Vp,Vp,Xcr,T.sn,T.lf,T.ll,by simp [endT,clr],?_,hwl,fun x hx=>T.bf x (List.mem_filter.1 hx).1,hW,T.fr,T.lm⟩
    show (t.buf.filter _).length≤100
    omega
   ·refine ⟨by simp [clr,I64],by simp,by simp,by simp,by simp [clr],by simp [clr],?_⟩
    dsimp only [clr]
    rw [if_neg (by omega),List.length_append]
    omega
   ·refine ⟨by simp [endT,clr,I64],by simp [endT],by simp [endT],by simp [endT],by simp [endT,clr],by simp [endT],?_⟩
    simp [endT,clr]
    omega
  ·rename_i hz
   refine .id H ⟨pcOK 60 (by simp [pcL]),fun _=>T.ops hp,fun _=>hz,by simp,by simp,T.nd,T.pv,T.cr,T.nx,T.sn,T.lf,T.ll,by show F.length≤100;omega,?_,hwl,fun x hx=>T.bf x (List.mem_filter.1 hx).1,hW,T.fr,T.lm⟩ ⟨I.s6,by simp,by simp,by simp,by show F.length≤8;omega,by simp,?_⟩
   ·show (t.buf.filter _).length≤100
    omega
   ·dsimp only
    rw [if_neg (by omega),List.length_append]
    omega
theorem g60 {s:Sta} {p:Nat} {t:Th} {n:Nat} (H:CV s) (T:TV s.c t) (I:TI s.c t n) (hn:n≤100) (h:t.pc=60):Good s p n (sk60 s p t):=by
 have hp:t.pc≠0:=by rw [h];decide
 have hb:=Xm H.cf
 unfold sk60
 have hw:=T.wk (.inl h)
 exact .ft H (T.to hp _ (pcOK 61 (by simp [pcL])) T.nd T.pv T.cr T.nx (fun _=>hw) (by simp) (by simp)) (I.go _ H.ld6 (by simp))
theorem g61 {s:Sta} {p:Nat} {t:Th} {n:Nat} (H:CV s) (T:TV s.c t) (I:TI s.c t n) (hn:n≤100) (h:t.pc=61):Good s p n (sk61 s p t):=by
 have hp:t.pc≠0:=by rw [h];decide
 have hb:=Xm H.cf
 unfold sk61
 have hw:=T.wk (.inr h)
 split
 ·rename_i hc
  have hv:Vg s.c (mrk t.seen)=true:=by
   have ho:=H.older (h:=(t.work.headD default).h)
   unfold swB at hc
   have hc:=of_decide_eq_true hc
   rw [Xfw] at ho
   rw [if_pos ⟨hc.1,hc.2.1⟩,hc.2.2] at ho
   rw [←Wm,X0l]
   rw [←Wm] at ho
   exact ho
  exact .pt H (.fld H (Xsu hv) (by omega) (by omega) (fun _=>hv)) (T.to hp _ (pcOK 10 (by simp [pcL])) T.nd T.pv T.cr T.nx (by simp) (by simp) (by simp)) (I.go _ I.s6 (by simp))
 ·exact .frtr H (T.to hp _ (pcOK 60 (by simp [pcL])) T.nd T.pv T.cr T.nx (fun _=>hw) (by simp) (by simp)) (I.go _ I.s6 (by simp))
theorem g62 {s:Sta} {p:Nat} {t:Th} {n:Nat} (H:CV s) (T:TV s.c t) (I:TI s.c t n) (hn:n≤100) (h:t.pc=62):Good s p n (sk62 s p t):=by
 have hp:t.pc≠0:=by rw [h];decide
 have hb:=Xm H.cf
 unfold sk62
 exact .pt H (.own H (by unfold I64;omega) (Xcs H.cf)) (T.to hp _ (pcOK 63 (by simp [pcL])) T.nd T.pv T.cr T.nx (by simp) (by simp) (by simp)) (I.go _ I.s6 (by simp))
theorem g63 {s:Sta} {p:Nat} {t:Th} {n:Nat} (H:CV s) (T:TV s.c t) (I:TI s.c t n) (hn:n≤100) (h:t.pc=63):Good s p n (sk63 s p t):=by
 have hp:t.pc≠0:=by rw [h];decide
 have hb:=Xm H.cf
 unfold sk63
 have hf:=X4v T I hp H.cf
 exact .pt H (.own H (by unfold I64;omega) (Xcs H.cf)) hf.1 hf.2
theorem g70 {s:Sta} {p:Nat} {t:Th} {n:Nat} (H:CV s) (T:TV s.c t) (I:TI s.c t n) (hn:n≤100) (h:t.pc=70):Good s p n (sk70 s p t):=by
 have hp:t.pc≠0:=by rw [h];decide
 have hb:=Xm H.cf
 unfold sk70
 have hps:=T.p7 h
 have hf5:=I.f5 (.inr h)
 have hfl:(fndT t (ld s (hazB s.c (t.pos / 2) (t.pos % 2)))).length≤t.found.length+1:=by unfold fndT;split <;> simp
 split
 ·refine .id H (T.to hp _ T.pcs T.nd T.pv T.cr T.nx (by simp [h]) (by simp [h]) (fun _=>by show 0≤t.pos+1∧t.pos+1≤_;omega) (hfo:=.inr (by show (fndT t _).length≤100;omega))) (I.go _ I.s6 (fun h=>h) (w1:=by simp [h]) (ss:=by simp [h]) (sb:=by simp [h]) (f5:=fun _=>by show ((fndT t _).length:Int)≤t.pos+1;omega) (fo:=.inr (by show (fndT t _).length≤8;omega)))
 ·dsimp only
  generalize hF:fndT t (ld s (hazB s.c (t.pos / 2) (t.pos % 2)))=F at hfl ⊢
  have hfr:=Xqt (c:=s.c) (l:=t.limbo.filter fun h=>!F.contains h) (g:=s.gens) (f:=t.free) (fun x hx=>T.lm x (List.mem_filter.1 hx).1) H.lg H.gn T.lf T.fr
  have hle:(t.limbo.filter fun h=>F.contains h).length≤t.limbo.length:=List.length_filter_le _ _
  have ht:=I.to
  refine .of (s':={s with gens:=_}) ⟨H.cf,H.lc,hfr.1,H.lt,H.ck,H.ar,H.hd,H.sp,H.ol,hfr.2.1,H.i6⟩ rfl rfl ⟨pcOK 0 (by simp [pcL]),fun h=>absurd rfl h,by simp [endT],by simp [endT],by simp [endT],Vp,Vp,Vp,Xcr,T.sn,hfr.2.2.1,?_,by simp [endT,clr],T.lb,T.lw,T.bf,T.wf,hfr.2.2.2,fun x hx=>T.lm x (List.mem_filter.1 hx).1⟩ ⟨by simp [endT,clr,I64],by simp [endT],by simp [endT],by simp [endT],by simp [endT,clr],by simp [endT],?_⟩ rfl (by dsimp only;omega) (by dsimp only;omega) (by dsimp only;omega)
  ·have:=T.ll
   show (t.limbo.filter _).length≤100
   omega
  ·have e:∀ a b:Nat,a≤b→(a+if (30:Int)≤0∧(0:Int)≤45 then 1 else 0)≤b:=fun a b h=>by rw [if_neg (by omega)];exact h
   exact e _ _ (by simp only [endT,clr];omega)
theorem g80 {s:Sta} {p:Nat} {t:Th} {n:Nat} (H:CV s) (T:TV s.c t) (I:TI s.c t n) (hn:n≤100) (h:t.pc=80):Good s p n (sk80 s p t):=by
 have hp:t.pc≠0:=by rw [h];decide
 have hb:=Xm H.cf
 unfold sk80
 have T2:TV s.c {t with snap:=0}:=T.to hp _ T.pcs T.nd T.pv T.cr T.nx (by simp [h]) (by simp [h]) (by simp [h]) (hsn:=.inr (by show (0:Int)≤0∧(0:Int)≤99;omega))
 have I2:TI s.c {t with snap:=0} n:=⟨I.s6,I.w1,I.ss,I.sb,I.fo,I.f5,I.to⟩
 exact .pt H (.own H (by unfold I64;omega) (Xug H.cf)) T2.end I2.end
theorem Xum {s:Sta} {p:Nat} {t:Th} {n:Nat} (H:CV s) (T:TV s.c t) (I:TI s.c t n) (hn:n≤100) (h0:t.pc≠0):Good s p n (Ye s p t):=by
 have hm:=X0d T.pcs
 simp only [pcL,List.mem_cons,List.not_mem_nil,or_false] at hm
 rcases hm with h | h | h | h | h | h | h | h | h | h | h | h | h | h | h | h | h | h | h | h | h | h | h | h | h | h | h | h | h | h | h | h | h | h | h | h | h | h | h | h | h | h | h
 ·exact absurd h h0
 ·rw [st1 h];exact g1 H T I hn h
 ·rw [st2 h];exact g2 H T I hn h
 ·rw [st3 h];exact g3 H T I hn h
 ·rw [st4 h];exact g4 H T I hn h
 ·rw [st5 h];exact g5 H T I hn h
 ·rw [st10 h];exact g10 H T I hn h
 ·rw [st11 h];exact g11 H T I hn h
 ·rw [st12 h];exact g12 H T I hn h
 ·rw [st13 h];exact g13 H T I hn h
 ·rw [st14 h];exact g14 H T I hn h
 ·rw [st15 h];exact g15 H T I hn h
 ·rw [st16 h];exact g16 H T I hn h
 ·rw [st17 h];exact g17 H T I hn h
 ·rw [st18 h];exact g18 H T I hn h
 ·rw [st19 h];exact g19 H T I hn h
 ·rw [st20 h];exact g20 H T I hn h
 ·rw [st21 h];exact g21 H T I hn h
 ·rw [st30 h];exact g30 H T I hn h
 ·rw [st31 h];exact g31 H T I hn h
 ·rw [st32 h];exact g32 H T I hn h
 ·rw [st33 h];exact g33 H T I hn h
 ·rw [st34 h];exact g34 H T I hn h
 ·rw [st35 h];exact g35 H T I hn h
 ·rw [st36 h];exact g36 H T I hn h
 ·rw [st37 h];exact g37 H T I hn h
 ·rw [st38 h];exact g38 H T I hn h
 ·rw [st39 h];exact g39 H T I hn h
 ·rw [st40 h];exact g40 H T I hn h
 ·rw [st41 h];exact g41 H T I hn h
 ·rw [st42 h];exact g42 H T I hn h
 ·rw [st43 h];exact g43 H T I hn h
 ·rw [st44 h];exact g44 H T I hn h
 ·rw [st45 h];exact g45 H T I hn h
 ·rw [st46 h];exact g46 H T I hn h
 ·rw [st47 h];exact g47 H T I hn h
 ·rw [st50 h];exact g50 H T I hn h
 ·rw [st60 h];exact g60 H T I hn h
 ·rw [st61 h];exact g61 H T I hn h
 ·rw [st62 h];exact g62 H T I hn h
 ·rw [st63 h];exact g63 H T I hn h
 ·rw [st70 h];exact g70 H T I hn h
 ·rw [st80 h];exact g80 H T I hn h
theorem Xct {s:Sta} {p:Nat} {ns:Nat→Nat} (H:SI s ns) (hp:p<s.ths.length) (hn:ns p≤100) (h0:(s.th p).pc≠0):Good {s with steps:=s.steps+1} p (ns p) (stepV s p):=by
 have G:=Xum (p:=p) H.cv (H.tv p hp).1 (H.tv p hp).2 hn h0
 obtain ⟨s',t',e,c1,c2,c3,c4,c5⟩:=G.ex
 refine ⟨⟨{s' with steps:=s.steps+1},t',?_,c1.of rfl rfl rfl rfl,c2,c3,c4,c5⟩,rfl,G.ch,G.rt,G.fl⟩
 unfold stepV
 rw [e]
theorem X0m {s:Sta} {p:Nat} {ns:Nat→Nat} (H:SI s ns) (hp:p<s.ths.length) (hn:ns p≤100) (h0:(s.th p).pc≠0):SI (stepV s p) ns :=
 (Xct H hp hn h0).si (s:={s with steps:=s.steps+1}) ⟨H.cv.of rfl rfl rfl rfl,H.tv⟩ hp rfl
end
noncomputable section
structure Ev where
 th:Int
 op:Op3
 res:Rs
 st:Int
 en:Int
 deriving DecidableEq,Inhabited
structure Mac where
 s:Sta
 progs:List (List Op3)
 next:List Int
 evs:List Ev
 time:Int
 deriving DecidableEq,Inhabited
def refV (c:Cf) (t:Th) (o:Op3):Int:=if o.key≥c.keys then 4 else if o.k=1∧t.snap≠0 then 6 else if (o.k=2∨o.k=4)∧t.snap=0 then 3 else 0
def begT (gens:List Int) (t:Th) (o:Op3):Th :=
 let t0:Th:={clr t with pc:=0,op:=o,res:=⟨0,0⟩}
 if o.k=1 then {t0 with pc:=1} else if o.k=2 then {t0 with pc:=10} else if o.k=4 then {t0 with pc:=80} else if o.k=5 then {t0 with pc:=50}
 else if t.free.length=0 then {t0 with pc:=30} else {t0 with pc:=32,free:=t.free.take (t.free.length - 1),node:=mkH (t.free.getD (t.free.length - 1) default) (gens.getD (t.free.getD (t.free.length - 1) default).toNat default)}
def V8 (s:Sta) (t:Th) (o:Op3):Th:=if refV s.c t o=0 then begT s.gens t o else {clr t with pc:=0,op:=o,res:=⟨refV s.c t o,0⟩}
def Y5 (s:Sta) (p:Nat) (o:Op3):Sta:=setT s p (V8 s (s.th p) o)
def Zk (evs:List Ev) (p time:Int) (r:Rs):Nat→List Ev
 | 0=>evs
 | i+1=>if (evs.getD i default).th=p then evs.set i {evs.getD i default with en:=time,res:=r} else Zk evs p time r i
def Xj6 (evs:List Ev) (p time:Int) (r:Rs):List Ev:=Zk evs p time r evs.length
def cntE (p:Int) (evs:List Ev):Nat:=(evs.filter fun e=>decide (e.th=p)).length
theorem Xf0 {evs:List Ev} {p time:Int} {r:Rs} {β:Type} {f:Ev→β} (hf:∀ e:Ev,f {e with en:=time,res:=r}=f e):∀ i,(Zk evs p time r i).map f=evs.map f
 | 0=>rfl
 | i+1=>by
   unfold Zk
   split
   ·by_cases hi:i<evs.length
    ·apply List.ext_getElem?
     intro j
     rw [List.getElem?_map,List.getElem?_map,List.getElem?_set]
     by_cases e:i=j
     ·subst e
      rw [if_pos rfl,if_pos hi,Option.map_some,hf,List.getElem?_eq_getElem hi,Option.map_some,List.getD_eq_getElem?_getD,List.getElem?_eq_getElem hi]
      rfl
     ·rw [if_neg e]
    ·rw [List.set_eq_of_length_le (by omega)]
   ·exact Xf0 hf i
theorem Xm4 {evs:List Ev} {p time:Int} {r:Rs}:(Xj6 evs p time r).length=evs.length:=by
 have:=congrArg List.length (Xf0 (evs:=evs) (p:=p) (time:=time) (r:=r) (f:=fun _=>()) (fun _=>rfl) evs.length)
 unfold Xj6
 simpa using this
theorem Xm5 {evs:List Ev} {p time q:Int} {r:Rs}:cntE q (Xj6 evs p time r)=cntE q evs:=by
 have:=Xf0 (evs:=evs) (p:=p) (time:=time) (r:=r) (f:=fun e=>decide (e.th=q)) (fun _=>rfl) evs.length
 have h:∀ l:List Ev,cntE q l=((l.map fun e=>decide (e.th=q)).filter fun b=>b).length:=by
  intro l;unfold cntE;rw [List.filter_map,List.length_map];rfl
 rw [h,h]
 unfold Xj6
 rw [this]
theorem Xf1 {evs:List Ev} {p time:Int} {r:Rs}:∀ {i:Nat},i≤evs.length→∀ e∈Zk evs p time r i,e∈evs∨∃ e'∈evs,e'.th=p∧e={e' with en:=time,res:=r}
 | 0,_,e,he=>.inl he
 | i+1,hi,e,he=>by
   unfold Zk at he
   split at he
   ·rename_i hp
    rcases List.mem_or_eq_of_mem_set he with h | h
    ·exact .inl h
    ·exact .inr ⟨evs.getD i default,Xi (by omega),hp,h⟩
   ·exact Xf1 (by omega) e he
theorem Xv8 {p:Int} {evs:List Ev}:cntE p evs≤evs.length:=List.length_filter_le _ _
theorem X0n {p:Int} {evs:List Ev} {e:Ev}:cntE p (evs++[e])=cntE p evs+if e.th=p then 1 else 0:=by
 unfold cntE
 rw [List.filter_append,List.length_append]
 congr 1
 by_cases h:e.th=p <;> simp [h]
def opAt (m:Mac) (p:Nat):Op3:=(m.progs.getD p default).getD (m.next.getD p default).toNat default
def canV (m:Mac) (p:Nat):Bool:=decide (m.time<1000000)&&(decide ((m.s.th p).pc≠0)||decide (m.next.getD p default<((m.progs.getD p default).length:Int))&&decide (m.evs.length<80))
def Um (m:Mac) (p:Nat):Mac :=
 if (m.s.th p).pc≠0 then
  {m with s:=stepV m.s p,evs:=if ((stepV m.s p).th p).pc=0 then Xj6 m.evs p m.time ((stepV m.s p).th p).res else m.evs,time:=m.time+1}
 else
  {m with s:=Y5 m.s p (opAt m p),next:=m.next.set p (m.next.getD p default+1),evs:=if refV m.s.c (m.s.th p) (opAt m p)=0 then m.evs++[⟨p,opAt m p,⟨0,0⟩,m.time,-1⟩] else Xj6 (m.evs++[⟨p,opAt m p,⟨0,0⟩,m.time,-1⟩]) p m.time ⟨refV m.s.c (m.s.th p) (opAt m p),0⟩,time:=m.time+1}
def Vz (l:List Op3):Bool:=l.all Vx&&decide (l.length≤20)
def evB (m:Mac) (e:Ev):Bool:=inB e.th 0 ((m.next.length:Int) - 1)&&Vx e.op&&inB e.st 0 m.time&&(decide (e.en=-1)||inB e.en e.st m.time)
structure MI (m:Mac):Prop where
 si:SI m.s fun p=>cntE p m.evs
 n1:0≤m.s.steps∧m.s.steps≤m.time
 n2:0≤m.s.changes∧m.s.changes≤m.time
 n3:0≤m.s.retries∧m.s.retries≤m.time
 n4:0≤m.s.faults∧m.s.faults≤m.time
 pl:(m.progs.length:Int)=m.s.c.th
 pr:∀ l∈m.progs,Vz l=true
 nl:m.next.length=m.progs.length
 tm:0≤m.time∧m.time≤1000000
 el:m.evs.length≤80
 nx:∀ i,i<m.next.length→0≤m.next.getD i default∧m.next.getD i default≤((m.progs.getD i default).length:Int)
 ev:∀ e∈m.evs,evB m e=true
theorem mem_get {α:Type} [Inhabited α] {l:List α} {x:α} (h:x∈l):∃ i,i<l.length∧x=l.getD i default:=by
 obtain ⟨i,hi,rfl⟩:=List.mem_iff_getElem.1 h
 exact ⟨i,hi,by rw [List.getD_eq_getElem?_getD,List.getElem?_eq_getElem hi];rfl⟩
theorem SI.sta {s:Sta} {ns:Nat→Nat} (H:SI s ns) (N:NV s):staB s=true∧∀ x∈s.cells,I64 x:=Xfy.2 ⟨H.cv,N,fun t ht=>by
 obtain ⟨i,hi,rfl⟩:=mem_get ht
 exact (H.tv i hi).1⟩
theorem MI.nv {m:Mac} (M:MI m):NV m.s:=by
 have:=M.tm;have:=M.n1;have:=M.n2;have:=M.n3;have:=M.n4
 exact ⟨by omega,by omega,by omega,by omega⟩
theorem MI.sta {m:Mac} (M:MI m):staB m.s=true:=(M.si.sta M.nv).1
theorem Xpe {o:Op3} (h:Vx o=true):1≤o.k∧o.k≤5:=by
 unfold Vx at h
 split at h
 ·omega
 ·split at h
  ·omega
  ·split at h
   ·omega
   ·simp at h
theorem TV.beg {s:Sta} {t:Th} {o:Op3} (H:CV s) (T:TV s.c t) (ho:Vx o=true):TV s.c (V8 s t o):=by
 have hb:=Xm H.cf
 unfold V8
 split
 ·rename_i hr
  have hk:o.key<s.c.keys:=by
   unfold refV at hr
   split at hr
   ·simp at hr
   ·omega
  have base:∀ k:Int,Xfs k=true→k≠60∧k≠61∧k≠70→TV s.c {clr t with pc:=k,op:=o,res:=⟨0,0⟩}:=fun k h1 h2 =>
   ⟨h1,fun _=>⟨ho,hk⟩,fun h=>by dsimp only at h;omega,fun _=>by show (0:Int)≤0∧(0:Int)≤_;omega,fun h=>by dsimp only at h;omega,Vp,Vp,Vp,Xcr,T.sn,T.lf,T.ll,by simp [clr],T.lb,T.lw,T.bf,T.wf,T.fr,T.lm⟩
  unfold begT
  dsimp only
  split
  ·exact base 1 (pcOK 1 (by simp [pcL])) (by omega)
  ·split
   ·exact base 10 (pcOK 10 (by simp [pcL])) (by omega)
   ·split
    ·exact base 80 (pcOK 80 (by simp [pcL])) (by omega)
    ·split
     ·exact base 50 (pcOK 50 (by simp [pcL])) (by omega)
     ·split
      ·exact base 30 (pcOK 30 (by simp [pcL])) (by omega)
      ·rename_i hf
       have hm:=T.fr _ (Xi (xs:=t.free) (k:=t.free.length - 1) (by omega))
       have hg:=H.gn (t.free.getD (t.free.length - 1) default).toNat (by have:=H.lg;omega)
       refine ⟨pcOK 32 (by simp [pcL]),fun _=>⟨ho,hk⟩,by simp,by simp,by simp,Xv7 hb.2.2.1.2 (by omega) hg,Vp,Vp,Xcr,T.sn,?_,T.ll,by simp [clr],T.lb,T.lw,T.bf,T.wf,?_,T.lm⟩
       ·have:=T.lf;simp;omega
       ·intro i hi;exact T.fr i (List.mem_of_mem_take hi)
 ·exact ⟨pcOK 0 (by simp [pcL]),fun h=>absurd rfl h,by simp,by simp,by simp,Vp,Vp,Vp,Xcr,T.sn,T.lf,T.ll,by simp [clr],T.lb,T.lw,T.bf,T.wf,T.fr,T.lm⟩
theorem TI.beg {s:Sta} {t:Th} {o:Op3} {n:Nat} (I:TI s.c t n):TI s.c (V8 s t o) (n+1):=by
 have ht:=I.to
 have base:∀ (t':Th),t'.seen=0→t'.found=[]→t'.pc≠31→t'.pc≠18→t'.pc≠40→t'.pc≠44→t'.pc≠2→t'.pc≠3→t'.pc≠4→t'.pos=0→t'.buf=t.buf→t'.work=t.work→t'.limbo=t.limbo→TI s.c t' (n+1):=by
  intro t' h1 h2 h3 h4 h5 h6 h7 h8 h9 h10 h11 h12 h13
  refine ⟨by rw [h1];simp [I64],by omega,by omega,by omega,by rw [h2];simp,by rw [h2,h10];simp,?_⟩
  rw [h11,h12,h13]
  split <;> omega
 unfold V8
 split
 ·unfold begT
  dsimp only
  split
  ·exact base _ rfl rfl (by simp) (by simp) (by simp) (by simp) (by simp) (by simp) (by simp) rfl rfl rfl rfl
  ·split
   ·exact base _ rfl rfl (by simp) (by simp) (by simp) (by simp) (by simp) (by simp) (by simp) rfl rfl rfl rfl
   ·split
    ·exact base _ rfl rfl (by simp) (by simp) (by simp) (by simp) (by simp) (by simp) (by simp) rfl rfl rfl rfl
    ·split
     ·exact base _ rfl rfl (by simp) (by simp) (by simp) (by simp) (by simp) (by simp) (by simp) rfl rfl rfl rfl
     ·split
      ·exact base _ rfl rfl (by simp) (by simp) (by simp) (by simp) (by simp) (by simp) (by simp) rfl rfl rfl rfl
      ·exact base _ rfl rfl (by simp) (by simp) (by simp) (by simp) (by simp) (by simp) (by simp) rfl rfl rfl rfl
 ·exact base _ rfl rfl (by simp) (by simp) (by simp) (by simp) (by simp) (by simp) (by simp) rfl rfl rfl rfl
theorem Good.len {s u:Sta} {p n:Nat} (G:Good s p n u):u.ths.length=s.ths.length∧u.c=s.c:=by
 obtain ⟨s',t',rfl,_,c2,c3,_⟩:=G.ex
 simp only [setT,List.length_set,c3,c2,and_self]
theorem Xiq {m m':Mac} {e:Ev} (h:evB m e=true) (h1:m'.next.length=m.next.length) (h2:m.time≤m'.time):evB m' e=true:=by
 unfold evB inB at *
 simp only [Bool.and_eq_true,Bool.or_eq_true,decide_eq_true_eq] at *
 rw [h1]
 obtain ⟨⟨⟨a1,a2⟩,a3⟩,a4⟩:=h
 exact ⟨⟨⟨by omega,a2⟩,by omega⟩,by omega⟩
theorem Xpf {m m':Mac} {e:Ev} {r:Rs} (h:evB m e=true) (h1:m'.next.length=m.next.length) (h2:m.time≤m'.time):evB m' {e with en:=m.time,res:=r}=true:=by
 unfold evB inB at *
 simp only [Bool.and_eq_true,Bool.or_eq_true,decide_eq_true_eq] at *
 rw [h1]
 obtain ⟨⟨⟨a1,a2⟩,a3⟩,a4⟩:=h
 exact ⟨⟨⟨by omega,a2⟩,by omega⟩,by omega⟩
theorem MI.pick {m:Mac} {p:Nat} (M:MI m) (hp:p<m.s.ths.length) (hc:canV m p=true):MI (Um m p):=by
 have hb:=Xm M.si.cv.cf
 have hlt:=M.si.cv.lt
 unfold canV at hc
 simp only [Bool.and_eq_true,Bool.or_eq_true,decide_eq_true_eq] at hc
 obtain ⟨htm,hc⟩:=hc
 have hM:=M.tm
 unfold Um
 by_cases h0:(m.s.th p).pc≠0
 ·rw [if_pos h0]
  have hn:cntE p m.evs≤100:=Nat.le_trans Xv8 (by have:=M.el;omega)
  have G:=Xct M.si hp hn h0
  have S:=X0m M.si hp hn h0
  have hst:=G.st;have hch:=G.ch;have hrt:=G.rt;have hfl:=G.fl
  have h1:=M.n1;have h2:=M.n2;have h3:=M.n3;have h4:=M.n4
  have hL:=G.len
  dsimp only at hst hch hrt hfl hL
  refine ⟨?_,?_,?_,?_,?_,?_,M.pr,M.nl,?_,?_,M.nx,?_⟩
  ·dsimp only
   refine ⟨S.cv,fun q hq=>?_⟩
   have:=S.tv q hq
   split
   ·rw [Xm5];exact this
   ·exact this
  ·dsimp only;omega
  ·dsimp only;omega
  ·dsimp only;omega
  ·dsimp only;omega
  ·dsimp only;rw [hL.2];exact M.pl
  ·dsimp only;omega
  ·dsimp only;split
   ·rw [Xm4];exact M.el
   ·exact M.el
  ·dsimp only
   intro e he
   split at he
   ·rcases Xf1 (Nat.le_refl _) e he with h | ⟨e',h,_,rfl⟩
    ·exact Xiq (M.ev e h) rfl (by dsimp only;omega)
    ·exact Xpf (M.ev e' h) rfl (by dsimp only;omega)
   ·exact Xiq (M.ev e he) rfl (by dsimp only;omega)
 ·rw [if_neg h0]
  have hc:=hc.resolve_left h0
  have hpl:p<m.progs.length:=by have:=M.pl;omega
  have hpn:p<m.next.length:=by rw [M.nl];exact hpl
  have hnx:=M.nx p hpn
  have hpr:=M.pr _ (Xi hpl)
  have hop:Vx (opAt m p)=true:=by
   unfold Vz at hpr
   obtain ⟨a1,a2⟩:=Bool.and_eq_true_iff.1 hpr
   exact List.all_eq_true.1 a1 _ (Xi (by omega))
  have hT:=M.si.tv p hp
  have h1:=M.n1;have h2:=M.n2;have h3:=M.n3;have h4:=M.n4
  have hcnt:∀ q:Nat,cntE q (m.evs++[⟨p,opAt m p,⟨0,0⟩,m.time,-1⟩])=cntE q m.evs+if q=p then 1 else 0:=by
   intro q
   rw [X0n]
   congr 1
   by_cases e:q=p
   ·subst e;simp
   ·rw [if_neg e,if_neg (by dsimp only;omega)]
  have hS:SI (Y5 m.s p (opAt m p)) fun q=>cntE q (m.evs++[⟨p,opAt m p,⟨0,0⟩,m.time,-1⟩]):=by
   refine ⟨M.si.cv.of rfl rfl rfl (by simp [Y5]),fun q hq=>?_⟩
   have hq':q<m.s.ths.length:=by simpa [Y5] using hq
   unfold Y5
   rw [Xuh hp]
   dsimp only
   rw [hcnt]
   split
   ·rename_i e
    subst e
    exact ⟨hT.1.beg M.si.cv hop,hT.2.beg⟩
   ·exact M.si.tv q hq'
  have hE:∀ e∈m.evs++[⟨p,opAt m p,⟨0,0⟩,m.time,-1⟩],evB m e=true:=by
   intro e he
   rcases List.mem_append.1 he with h | h
   ·exact M.ev e h
   ·rw [List.mem_singleton.1 h]
    unfold evB
    rw [hop]
    simp only [Bool.and_eq_true,Bool.or_eq_true,decide_eq_true_eq]
    refine ⟨⟨⟨?_,trivial⟩,?_⟩,.inl ?_⟩ <;> (try dsimp only) <;> omega
  refine ⟨?_,?_,?_,?_,?_,M.pl,M.pr,?_,?_,?_,?_,?_⟩
  ·dsimp only
   refine ⟨hS.cv,fun q hq=>?_⟩
   have:=hS.tv q hq
   split
   ·exact this
   ·rw [Xm5];exact this
  ·show 0≤m.s.steps∧m.s.steps≤m.time+1;omega
  ·show 0≤m.s.changes∧m.s.changes≤m.time+1;omega
  ·show 0≤m.s.retries∧m.s.retries≤m.time+1;omega
  ·show 0≤m.s.faults∧m.s.faults≤m.time+1;omega
  ·dsimp only;rw [List.length_set];exact M.nl
  ·dsimp only;omega
  ·dsimp only;split
   ·rw [List.length_append,List.length_singleton];omega
   ·rw [Xm4,List.length_append,List.length_singleton];omega
  ·dsimp only
   intro i hi
   rw [List.length_set] at hi
   rw [List.getD_eq_getElem?_getD,List.getElem?_set]
   by_cases e:p=i
   ·subst e
    rw [if_pos rfl,if_pos hi]
    show 0≤_+1∧_+1≤_
    omega
   ·rw [if_neg e,←List.getD_eq_getElem?_getD];exact M.nx i hi
  ·dsimp only
   intro e he
   split at he
   ·exact Xiq (hE e he) (by simp) (by dsimp only;omega)
   ·rcases Xf1 (Nat.le_refl _) e he with h | ⟨e',h,_,rfl⟩
    ·exact Xiq (hE e h) (by simp) (by dsimp only;omega)
    ·exact Xpf (hE e' h) (by simp) (by dsimp only;omega)
def th0:Th:=⟨0,⟨0,0,0⟩,⟨0,0⟩,0,0,0,0,0,0,0,0,[],[],[],[],[]⟩
def Za (c:Cf):Sta:=⟨c,(List.replicate (ccB c).toNat 0).set 0 1,List.replicate c.cap.toNat 0,List.replicate c.th.toNat th0,0,0,0,0⟩
def Uf (c:Cf) (progs:List (List Op3)):Mac:=⟨Za c,progs,List.replicate c.th.toNat 0,[],0⟩
def Vv (c:Cf) (progs:List (List Op3)):Bool:=Yp c&&(eqI progs.length c.th&&progs.all Vz)
theorem X4w {c:Cf} (hc:Yp c=true):SI (Za c) fun _=>0:=by
 have hb:=Xm hc
 have hcc:=Xig hc
 have hl:(Za c).cells.length=(ccB c).toNat:=by simp [Za]
 have hcl:∀ i:Int,0≤i→cl (Za c) i=if i=0 then 1 else 0:=by
  intro i hi
  unfold cl Za
  dsimp only
  rw [List.getD_eq_getElem?_getD,List.getElem?_set]
  by_cases e:i=0
  ·subst e
   rw [if_pos (by rfl),if_pos (by simp;omega),if_pos rfl]
   rfl
  ·rw [if_neg (by omega),if_neg e,List.getElem?_replicate]
   split <;> rfl
 constructor
 ·refine ⟨hc,by rw [hl];show (((ccB c).toNat:Nat):Int)=2+3*c.th+c.keys+3*c.cap;omega,by simp [Za];omega,by simp [Za];omega,?_,?_,?_,?_,?_,?_,?_⟩
  ·rw [hcl 0 (by omega),if_pos rfl];show (1:Int)≤1∧(1:Int)≤c.cm;omega
  ·rw [hcl 1 (by omega),if_neg (by omega)];show (0:Int)≤0∧(0:Int)≤c.cap;omega
  ·intro k k0 k1
   rw [hcl _ (by show 0≤2+3*c.th+k;omega),if_neg (by show ¬2+3*c.th+k=0;omega)];exact Vp
  ·intro k k0 k1
   rw [hcl _ (by show 0≤2+3*c.th+c.keys+3*k;omega),if_neg (by show ¬2+3*c.th+c.keys+3*k=0;omega)];omega
  ·intro k k0 k1
   rw [hcl _ (by show 0≤2+3*c.th+c.keys+3*k+2;omega),if_neg (by show ¬2+3*c.th+c.keys+3*k+2=0;omega)];exact Xcr
  ·intro i hi
   unfold Za at *
   dsimp only at *
   rw [List.getD_eq_getElem?_getD,List.getElem?_replicate]
   split
   ·show (0:Int)≤0∧(0:Int)≤9998;omega
   ·show (0:Int)≤0∧(0:Int)≤9998;omega
  ·intro x hx
   unfold Za at hx
   dsimp only at hx
   rcases List.mem_or_eq_of_mem_set hx with h | h
   ·rw [(List.mem_replicate.1 h).2];simp [I64]
   ·rw [h];simp [I64]
 ·intro p hp
  have e:(Za c).th p=th0:=by
   unfold Sta.th Za
   dsimp only
   rw [List.getD_eq_getElem?_getD,List.getElem?_replicate]
   unfold Za at hp
   simp only [List.length_replicate] at hp
   rw [if_pos hp]
   rfl
  rw [e]
  refine ⟨⟨pcOK 0 (by simp [pcL]),fun h=>absurd rfl h,by simp [th0],by simp [th0],by simp [th0],Vp,Vp,Vp,Xcr,by simp [th0],by simp [th0],by simp [th0],by simp [th0],by simp [th0],by simp [th0],by simp [th0],by simp [th0],by simp [th0],by simp [th0]⟩,⟨by simp [th0,I64],by simp [th0],by simp [th0],by simp [th0],by simp [th0],by simp [th0],by simp [th0]⟩⟩
theorem X0o {c:Cf} {progs:List (List Op3)} (hc:Vv c progs=true):MI (Uf c progs):=by
 unfold Vv eqI at hc
 simp only [Bool.and_eq_true,decide_eq_true_eq,List.all_eq_true] at hc
 obtain ⟨h1,h2,h3⟩:=hc
 have hb:=Xm h1
 refine ⟨X4w h1,?_,?_,?_,?_,h2,h3,?_,?_,?_,?_,?_⟩
 ·simp [Uf,Za]
 ·simp [Uf,Za]
 ·simp [Uf,Za]
 ·simp [Uf,Za]
 ·simp [Uf];omega
 ·simp [Uf]
 ·simp [Uf]
 ·intro i hi
  unfold Uf at *
  dsimp only at *
  rw [List.getD_eq_getElem?_getD,List.getElem?_replicate]
  split
  ·show (0:Int)≤0∧(0:Int)≤_;omega
  ·show (0:Int)≤0∧(0:Int)≤_;omega
 ·simp [Uf]
end
noncomputable section
theorem Yv {α:Type} (l:List α):l=[]∨∃ a m,l=a::m:=by cases l with
 | nil=>exact .inl rfl
 | cons a m=>exact .inr ⟨a,m,rfl⟩
theorem Xs {s:Sta} {a v:Int} (ha:0≤a∧a<(s.cells.length:Int)) (h:cl s a=v):put s a v={s with cells:=s.cells.set a.toNat v}:=by unfold put;rw [if_pos ha,if_pos h]
theorem Xo {s:Sta} {a v:Int} (ha:0≤a∧a<(s.cells.length:Int)) (h:¬cl s a=v):put s a v={s with cells:=s.cells.set a.toNat v,changes:=s.changes+1}:=by unfold put;rw [if_pos ha,if_neg h]
theorem Xbj {s:Sta} {v:Int}:put s (-1) v=s:=Xv6 (by omega)
theorem Un {s:Sta} {a o v:Int} (ha:0≤a∧a<(s.cells.length:Int)) (h:cl s a=o):swp s a o v=put s a v:=by unfold swp swB;rw [if_pos (decide_eq_true ⟨ha.1,ha.2,h⟩)]
theorem Xf2 {s:Sta} {a o v:Int} (h:¬cl s a=o):swp s a o v=s:=by unfold swp swB;rw [if_neg (by simp;intro _ _;exact h)]
theorem Xbk {s:Sta} {o v:Int}:swp s (-1) o v=s:=by unfold swp swB;rw [if_neg (by simp)]
theorem Yl {s:Sta} {a o:Int} (ha:0≤a∧a<(s.cells.length:Int)) (h:cl s a=o):swB s a o=true:=decide_eq_true ⟨ha.1,ha.2,h⟩
theorem Xdk {s:Sta} {a o:Int} (h:¬cl s a=o):¬swB s a o=true:=by unfold swB;simp;intro _ _;exact h
theorem Xf3 {s:Sta} {o:Int}:¬swB s (-1) o=true:=by unfold swB;simp
theorem X4 {s:Sta} {h:Int} (hc:curB s (unmk h)=true):flt s h=s:=by unfold flt;rw [if_pos hc]
theorem X6 {s:Sta} {h:Int} (hc:¬curB s (unmk h)=true):flt s h={s with faults:=s.faults+1}:=by unfold flt;rw [if_neg hc]
theorem Xu {s:Sta} {h f:Int} (hc:curB s (unmk h)=true):fldA s h f=ncB s.c (idxB (unmk h)) f:=by unfold fldA;rw [if_pos hc]
theorem Xw {s:Sta} {h f:Int} (hc:¬curB s (unmk h)=true):fldA s h f=-1:=by unfold fldA;rw [if_neg hc]
theorem Zp {s:Sta} {t:Th} (h:t.prev=0):lnkA s t=X2 s.c (wKey t):=by unfold lnkA;rw [if_pos h]
theorem Zh {s:Sta} {t:Th} (h:¬t.prev=0):lnkA s t=fldA s t.prev 2:=by unfold lnkA;rw [if_neg h]
theorem Zq {s:Sta} {t:Th} (h:t.prev=0):lnkF s t=s:=by unfold lnkF;rw [if_pos h]
theorem Zi {s:Sta} {t:Th} (h:¬t.prev=0):lnkF s t=flt s t.prev:=by unfold lnkF;rw [if_neg h]
theorem Xc5 {s:Sta} {b:Bool} (h:b=true):rtr s b=s:=by unfold rtr;rw [if_pos h]
theorem Xc6 {s:Sta} {b:Bool} (h:¬b=true):rtr s b={s with retries:=s.retries+1}:=by unfold rtr;rw [if_neg h]
theorem Qq {s:Sta}:rtr s false={s with retries:=s.retries+1}:=rfl
theorem V9 {t:Th} (h:¬t.curr=0):goOn t={t with pc:=11}:=by unfold goOn;rw [if_pos h]
theorem Q9 {t:Th} (h:t.curr=0) (hk:t.op.k=2):goOn t={t with res:=⟨1,0⟩,pc:=20}:=by unfold goOn;rw [if_neg (by simp [h]),if_pos hk]
theorem Xaa {t:Th} (h:t.curr=0) (hk:¬t.op.k=2) (hw:t.work=[]):goOn t={t with pc:=62}:=by unfold goOn;rw [if_neg (by simp [h]),if_neg hk,hw]
theorem Vw {t:Th} {e:Ent} {w:List Ent} (h:t.curr=0) (hk:¬t.op.k=2) (hw:t.work=e::w):goOn t={t with limbo:=t.limbo++[e.h],work:=w,pc:=if w.length=0 then 62 else 60}:=by unfold goOn;rw [if_neg (by simp [h]),if_neg hk,hw]
theorem Qr {c:Cf} {t:Th} (h:(t.limbo.length:Int)≥2*c.th+c.b∨t.op.k=5∧t.limbo.length≠0):fin c t={clr t with pc:=70}:=by unfold fin;rw [if_pos h]
theorem Xbt {c:Cf} {t:Th} (h:¬((t.limbo.length:Int)≥2*c.th+c.b∨t.op.k=5∧t.limbo.length≠0)):fin c t=endT t ⟨0,0⟩:=by unfold fin;rw [if_neg h]
theorem Zl {s:Sta} {a:Int} (h:0≤a∧a<(s.cells.length:Int)):ld s a=cl s a:=by rw [Xfw,if_pos h]
theorem Zr {s:Sta} (H:CV s) {p:Int} (hp:0≤p∧p<s.c.th):0≤annB s.c p∧annB s.c p<(s.cells.length:Int):=by
 have hb:=Xm H.cf;have:=H.lc
 rw [Xqo H.cf hp.1 hp.2];omega
theorem Xj {s:Sta} (H:CV s) {p j:Int} (hp:0≤p∧p<s.c.th) (hj:0≤j∧j≤1):0≤hazB s.c p j∧hazB s.c p j<(s.cells.length:Int):=by
 have hb:=Xm H.cf;have:=H.lc
 rw [Xqp H.cf hp.1 hp.2 hj];omega
theorem Wo {s:Sta} (H:CV s) {k:Int} (hk:0≤k∧k<s.c.keys):0≤X2 s.c k∧X2 s.c k<(s.cells.length:Int):=by
 have hb:=Xm H.cf;have:=H.lc
 rw [Xfx H.cf hk.1 hk.2];omega
theorem Z9 {s:Sta} (H:CV s) {h f:Int} (hc:curB s h=true) (hf:0≤f∧f≤2):0≤ncB s.c (idxB h) f∧ncB s.c (idxB h) f<(s.cells.length:Int):=by
 have hb:=Xm H.cf;have:=H.lc
 have hx:=Y3 (Vi hc)
 rw [Xj5 H.cf hx.1 hx.2 hf];omega
theorem Wa {s:Sta} (H:CV s) {h:Int} (hc:curB s h=true):0≤idxB h∧idxB h<24:=by
 have hb:=Xm H.cf
 have hx:=Y3 (Vi hc)
 omega
theorem Wx {P:Prop} [Decidable P] {α:Type} {a b:α}:(bif decide P then a else b)=if P then a else b:=by by_cases h:P <;> simp [h]
theorem Wy {x y:Int} {α:Type} {a b:α}:(bif x==y then a else b)=if x=y then a else b:=by
 by_cases h:x=y
 ·rw [if_pos h,Yk h];rfl
 ·rw [if_neg h,Xt h];rfl
theorem beq2 {x y:Int}:((x==y)=true)=(x=y):=propext ⟨fun h=>by simpa using h,fun h=>Yk h⟩
theorem Xab {c:Bool} {α:Type} {a b:α}:(bif c then a else b)=if c=true then a else b:=by cases c <;> rfl
def runB (s:Sta) (p:Nat):Bool:=decide ((s.th p).pc≠0)
theorem okSt {a b:List AV} (h:a=b):some (⟨.tup [.agg a,.bool true],[]⟩:Res)=some ⟨.tup [.agg b,.bool true],[]⟩:=by rw [h]
end
end Go.Proofs.YtbploohjimpcaaaGreat.A
