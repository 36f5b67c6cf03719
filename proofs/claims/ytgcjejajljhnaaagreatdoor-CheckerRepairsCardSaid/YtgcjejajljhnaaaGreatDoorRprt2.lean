/- Own text, part Rprt 2: walks of the package acl and of its reference, and the plain laws that they lean on; no statement of the seat is here. -/
import Derived.Test.YtgcjejajljhnaaaGreatDoorRprt1
import Derived.Lib.ItoaNum
import Derived.Calls
import Derived.Orders
import Derived.Below
import Derived.Laws.CopyRow
import Derived.Laws.Cells
import Derived.Laws.Rows
import Derived.WalkKit
import Derived.Deep.AppendSrc
import Derived.Laws.Tables
import Derived.Laws.MakeOwn
import Derived.Laws.BytesString
import Derived.Laws.Append
import Derived.Laws.AppendOwn
import Derived.Laws.Build
import Derived.Laws.IdiomStrings
import Derived.Laws.StructEq
set_option linter.all false
abbrev yWX:=@Go.Result.andThen_ok
abbrev y2X:=@Go.Sem.run_bind
abbrev y6Y:=@Go.Sem.run_pure
namespace Go.Ex
open Go
inductive T (α:Type) where
 |e
 |n (l:T α) (v:Option α) (r:T α)
 |f (a b:Nat) (g:Nat->Option α) (t:T α)
def inR (a b k:Nat):Bool:=match Nat.ble a k with|true=>Nat.blt k b|false=>false
section
variable {α : Type}
def T.get :T α->Nat->Option α
 | .e,_=>none
 | .n l v r,k=>match k with|0=>v|k+1=>match Nat.beq (Nat.mod k 2) 0 with|true=>l.get (Nat.div k 2)|false=>r.get (Nat.div k 2)
 | .f a b g t,k=>match inR a b k with|true=>g (Nat.sub k a)|false=>t.get k
def T.putE :Nat->Nat->Option α->T α
 |0,_,_=> .e
 |d+1,k,x=>match k with|0=> .n .e x .e|k+1=>match Nat.beq (Nat.mod k 2) 0 with|true=> .n (T.putE d (Nat.div k 2) x) none .e|false=> .n .e none (T.putE d (Nat.div k 2) x)
def zpD (g:Nat->Option α) (k:Nat) (x:Option α) (j:Nat):Option α:=match Nat.beq j k with|true=>x|false=>g j
def T.put :T α->Nat->Option α->T α
 | .e,k,x=>T.putE (Nat.succ k) k x
 | .n l v r,k,x=>match k with|0=> .n l x r|k+1=>match Nat.beq (Nat.mod k 2) 0 with|true=> .n (l.put (Nat.div k 2) x) v r|false=> .n l v (r.put (Nat.div k 2) x)
 | .f a b g t,k,x=>match inR a b k with|true=> .f a b (zpD g (Nat.sub k a) x) t|false=> .f a b g (t.put k x)
end
inductive AV where
 |sc (v:Value)
 |ptr (b off:Nat)
 |sl (b off len cap:Nat)
 |so (b off len start:Nat)
 |fn (f:Fn) (first captured:List AV)
 |agg (l:List AV)
 |tup (l:List AV)
 |ifc (t:TypeId) (v:AV)
 |any
 |lst (sz n:Nat) (f:Nat->List AV)
 |cp (cs:List AV) (off:Nat)
 deriving Inhabited
def AV.undef :AV:= .sc Go.undef
inductive AO where
 |row (c:List AV) (e:TypeId) (s:Nat)
 |iter (s:ByteArray) (pos:Nat)
 deriving Inhabited
structure St where
 h:T AO
 n:Nat
inductive R (α:Type) where
 |ok (a:α)
 |no (why:String)
def bd {α β:Type} (x:R α) (f:α->R β):R β:=match x with| .ok a=>f a| .no e=> .no e
def ofO {α:Type} (x:Option α):R α:=match x with|some a=> .ok a|none=> .no "none"
def zbh {α:Type} (b:Bool) (x:R α):R α:=match b with|true=>x|false=> .no "condition"
def St.set (s:St) (b:Nat) (o:AO):St:=⟨s.h.put b (some o),s.n⟩
def St.new (s:St) (o:AO):St:=match s with|⟨h,n⟩=>⟨h.put n (some o),Nat.succ n⟩
def AV.val :AV->R Value
 | .sc v=> .ok v
 | .agg l=>bd (vals l) λl=> .ok (.agg l.toArray)
 | .tup l=>bd (vals l) λl=> .ok (.tuple l.toArray)
 | .ifc t v=>bd v.val λv=> .ok (.iface t v)
 |_=> .no "an address"
where vals:List AV->R (List Value)
 |[]=> .ok []
 |a::l=>bd a.val λv=>bd (vals l) λl=> .ok (v::l)
def zeH :AV->Bool
 | .any=>false
 |_=>true
def AV.cells :AV->List AV
 | .sc v=>v.cells.toList.map .sc
 | .agg l=>l
 |v=>[v]
def pure? (P:Program) {α:Type}:Sem α->R α
 | .pure a=> .ok a
 | .program k=>pure? P (k P)
 | .mark _ k=>pure? P k
 |_=> .no "not pure"
def zov :List AV->Nat->R (List AV)
 |_,0=> .ok []
 |[],_+1=> .no "too few cells"
 |a::l,n+1=>bd (zov l n) λl=> .ok (a::l)
def takeN (l:List AV) (off n:Nat):R (List AV):=zov (l.drop off) n
def zqD :List AV->Nat->R AV
 |[],_=> .no "no such cell"
 |a::_,0=> .ok a
 |_::l,k+1=>zqD l k
def zgW :AV->Bool
 | .agg _| .tup _| .sc (.agg _)| .sc (.tuple _)| .any=>false
 |_=>true
def zfk :List AV->List AV->R (List AV)
 |l,[]=> .ok l
 |[],_::_=> .no "store out of the known cells"
 |_::l,x::xs=>match zgW x with|true=>bd (zfk l xs) λl=> .ok (x::l)|false=> .no "store not of one cell"
def putAt :List AV->Nat->List AV->R (List AV)
 |l,0,xs=>zfk l xs
 |[],_+1,_=> .no "store out of the known cells"
 |a::l,k+1,xs=>bd (putAt l k xs) λl=> .ok (a::l)
structure Ty where
 d:TypeDesc
 size:Nat
 bytes:Nat
 zero:Option Value
def ty (P:Program) (t:TypeId):R Ty:=match P.underlying t,P.info? t with|some d,some i=> .ok ⟨d,i.size,i.bytes,i.zero⟩|_,_=> .no "no such type"
def zuD :TypeDesc->Bool
 | .struct _| .array _ _=>true
 |_=>false
def zkh :TypeDesc->R TypeId
 | .slice e=> .ok e
 |_=> .no "slice type expected"
def rowOf :AO->R (List AV×TypeId×Nat)
 | .row c e s=> .ok (c,e,s)
 |_=> .no "a row expected"
def rowAt (s:St) (b:Nat):R (List AV×TypeId×Nat):=bd (ofO (s.h.get b)) rowOf
def zeF (s:St) (b off n:Nat):R (List AV):=bd (rowAt s b) λr=>takeN r.1 off n
def zeE (t:Ty) (cs:List AV) (off:Nat):R AV:=match zuD t.d with|true=>bd (takeN cs off t.size) λl=> .ok (.agg l)|false=>zqD cs off
def zcw (P:Program) (s:St) (t:TypeId) (b off:Nat):R AV:=bd (ty P t) λi=>bd (rowAt s b) λr=>zeE i r.1 off
def zcH (s:St) (b off:Nat) (xs:List AV):R St:=bd (rowAt s b) λr=>bd (putAt r.1 off xs) λc=> .ok (s.set b (.row c r.2.1 r.2.2))
def zk8 (v:AV):R Nat:=match v with
 | .sc (.int _ (.ofNat n))=> .ok n
 |_=> .no "a natural number expected"
def zyQ :AV->R Nat
 | .sc (.slice none 0 0)=> .ok 0
 | .sc (.slice (some _) n _)=> .ok n
 | .sl _ _ len _=> .ok len
 | .so _ _ len _=> .ok len
 | .lst _ n _=> .ok n
 |_=> .no "slice expected"
def zbf (b:UInt8):AV:= .sc (.int .u8 b.toNat)
def source (s:St) (size:Nat) (v:AV):R (Nat×List AV):=
 match v with
 | .sc (.string b)=> .ok (b.size,b.data.toList.map zbf)
 | .sc (.slice none 0 0)=> .ok (0,[])
 | .sc (.slice (some _) 0 _)=> .ok (0,[])
 | .sl _ _ 0 _=> .ok (0,[])
 | .sl b off len _=>bd (zeF s b off (len*size)) λl=> .ok (len,l)
 | .so b off len _=>bd (zeF s b off (len*size)) λl=> .ok (len,l)
 | .lst sz n f=>zbh (Nat.beq sz size) (.ok (n,(List.range n).flatMap f))
 |_=> .no "slice or string expected"
def zc8 (n:Nat) (z:Value):List AV:=(List.replicate n (z.cells.toList.map AV.sc)).flatten
def zwL :TypeDesc->Bool
 | .slice _| .string=>true
 |_=>false
def grow (s:St) (e:TypeId) (size need:Nat) (cs:List AV):R (AV×St):= .ok (.so s.n 0 need 0,s.new (.row cs e size))
def zc7 (s:St) (e:TypeId) (i:Ty) (x:AV) (r:Nat×List AV):R (AV×St):=
 match x with
 | .sc (.slice none 0 0)=>match r.1 with
  |0=> .ok (x,s)
  |n+1=>zbh (decide ((n+1)*i.bytes<=2^47)&&decide (n+1<=2^60)) (grow s e i.size (n+1) r.2)
 | .lst 0 0 _=>match r.1 with
  |0=> .ok (x,s)
  |n+1=>zbh (decide ((n+1)*i.bytes<=2^47)&&decide (n+1<=2^60)) (grow s e i.size (n+1) r.2)
 | .sl b off len cap=>zbh (decide ((len+r.1)*i.bytes<=2^47)&&decide (len+r.1<=2^60)) (
  match Nat.ble (len+r.1) cap with
  |true=>bd (zcH s b (off+len*i.size) r.2) λs'=> .ok (.sl b off (len+r.1) cap,s')
  |false=>bd (zeF s b off (len*i.size)) λold=>grow s e i.size (len+r.1) (old++r.2))
 | .so b off len start=>match r.1 with
  |0=> .ok (x,s)
  |n+1=>zbh (Nat.beq off (start*i.size)&&decide ((len+(n+1))*i.bytes<=2^47)&&decide (len+(n+1)<=2^60)) (
   bd (rowAt s b) λo=>
   zbh (Nat.beq o.1.length (off+len*i.size)&&Nat.beq o.2.2 i.size&&Nat.beq o.2.1 e)
    (.ok (.so s.n 0 (len+(n+1)) 0,⟨(s.h.put b none).put s.n (some (.row (o.1.drop off++r.2) e i.size)),Nat.succ s.n⟩)))
 |_=> .no "append slice expected"
def zpJ (size:Nat) (y:AV):Bool:=match y with| .sc (.string _)=>Nat.beq size 1| .any=>false|_=>true
def za8 :List AV->Bool
 |[]=>true
 |x::l=>match zgW x with|true=>za8 l|false=>false
def zkv (P:Program) (s:St) (tx ty':TypeId) (x y:AV):R (AV×St):=
 bd (ty P tx) λi=>bd (zkh i.d) λe=>bd (ty P e) λi=>zbh (Nat.blt 0 i.size) (
 bd (ofO i.zero) λz=>zbh (Nat.beq z.cells.size i.size&&zpJ i.size y) (
 bd (ty P ty') λj=>zbh (zwL j.d) (
 bd (source s i.size y) λr=>zbh (za8 r.2) (zc7 s e i x r))))
def zvZ (s:St) (size:Nat) (x:AV) (r:Nat×List AV):R (AV×St):=
 match x with
 | .sc (.slice none 0 0)=> .ok (.sc (.int .i64 0),s)
 | .sl b off len _=>bd (zcH s b off (r.2.take (min r.1 len*size))) λs'=> .ok (.sc (.int .i64 (min r.1 len:Nat)),s')
 | .so b off len _=>bd (zcH s b off (r.2.take (min r.1 len*size))) λs'=> .ok (.sc (.int .i64 (min r.1 len:Nat)),s')
 |_=> .no "copy slice expected"
def zxE (P:Program) (s:St) (tx:TypeId) (x y:AV):R (AV×St):=
 bd (ty P tx) λi=>bd (zkh i.d) λe=>bd (ty P e) λi=>zbh (zpJ i.size y) (bd (source s i.size y) λr=>zvZ s i.size x r)
def zrQ (P:Program) (t:TypeId):R Value:=
 bd (ty P t) λi=>bd (zkh i.d) λe=>bd (ty P e) λi=>ofO i.zero
def zlC (s:St) (x:AV) (z:Value):R St:=
 match x with
 | .sc (.slice none 0 0)=> .ok s
 | .sl b off len _=>zcH s b off (zc8 len z)
 | .so b off len _=>zcH s b off (zc8 len z)
 |_=> .no "clear slice expected"
def bound (x:Option AV) (d y:Nat):R Nat:=
 match x with
 |none=> .ok d
 |some v=>bd (zk8 v) λn=>match Nat.ble n y with|true=> .ok n|false=> .no "slice out of bounds"
def bounds (len cap:Nat) (lo hi mx:Option AV):R (Nat×Nat×Nat):=
 zbh (match mx,hi with|some _,none=>false|_,_=>true) (
 bd (bound mx cap cap) λm=>bd (bound hi len m) λh=>bd (bound lo 0 h) λl=> .ok (l,h,m))
def cut (b off size:Nat) (r:Nat×Nat×Nat):AV:= .sl b (match Nat.beq r.2.2 r.1 with|true=>off|false=>off+r.1*size) (r.2.1-r.1) (r.2.2-r.1)
def zeZ (s:St) (e:TypeId) (size b off len start:Nat) (r:Nat×Nat×Nat):R (AV×St):=
 match r.1 with
 |0=> .ok (.so b off r.2.1 start,s)
 |l+1=>match Nat.blt (l+1) len with
  |true=> .ok (.so b (off+(l+1)*size) (r.2.1-(l+1)) (start+(l+1)),s)
  |false=>match rowAt s b with
   | .ok o=>zbh (Nat.beq off (start*size)&&Nat.beq o.1.length (off+len*size)&&Nat.beq o.2.2 size&&Nat.beq o.2.1 e)
    (.ok (.so s.n 0 0 0,⟨(s.h.put b none).put s.n (some (.row [] e size)),Nat.succ s.n⟩))
   | .no _=>zbh (Nat.blt 0 size) (.ok (.lst size 0 (λ_=>[]),s))
def ze7 (s:St) (e:TypeId) (size:Nat) (x:AV) (lo hi mx:Option AV):R (AV×St):=
 match x with
 | .sc (.slice none 0 0)=>bd (bounds 0 0 lo hi mx) λ_=> .ok (x,s)
 | .sc (.slice (some a) n c)=>bd (bounds n c lo hi mx) λr=>match r.1 with|0=> .ok (.sc (.slice (some a) r.2.1 r.2.2),s)|_+1=> .no "slice of a value"
 | .sl b off len cap=>bd (bounds len cap lo hi mx) λr=> .ok (cut b off size r,s)
 | .lst sz n f=>match mx with
  |none=>bd (bounds n n lo hi none) λr=>zbh (Nat.beq sz size) (.ok (.lst sz (r.2.1-r.1) (λi=>f (r.1+i)),s))
  |some _=>match n with
   |0=>bd (bounds 0 0 lo hi mx) λ_=> .ok (.lst 0 0 f,s)
   |_+1=> .no "slice of known data"
 | .so b off len start=>match mx with
  |some _=>bd (bounds len len lo hi mx) λr=> .ok (cut b off size r,s)
  |none=>bd (bounds len len lo hi none) λr=>zeZ s e size b off len start r
 |_=> .no "slice expected"
def zjc (P:Program) (s:St) (n:Nat) (e:TypeId) (x:AV) (lo hi mx:Option AV):R (AV×St):=
 match x with
 | .ptr b off=>bd (ty P e) λj=>bd (bounds n n lo hi mx) λr=> .ok (cut b off j.size r,s)
 |_=> .no "array address expected"
def znd (s:ByteArray) (lo hi mx:Option AV):R AV:=
 match mx with
 |some _=> .no "a string"
 |none=>bd (bounds s.size s.size lo hi none) λr=> .ok (.sc (.string ⟨((s.data.toList.drop r.1).take (r.2.1-r.1)).toArray⟩))
def zdS (P:Program) (s:St) (t:TypeId) (x:AV) (lo hi mx:Option AV):R (AV×St):=
 match x with
 | .sc (.string b)=>bd (ty P t) λi=>match i.d with| .string=>bd (znd b lo hi mx) λv=> .ok (v,s)|_=> .no "slice"
 |_=>bd (ty P t) λi=>match i.d with
  | .slice e=>bd (ty P e) λj=>ze7 s e j.size x lo hi mx
  | .array n e=>zjc P s n e x lo hi mx
  |_=> .no "slice of what"
def eqA (d:TypeDesc) (x y:AV):R Bool:=
 match d with
 | .pointer _=>match x with
  | .sc (.pointer none)=>match y with| .ptr _ _=> .ok false|_=> .no "comparison"
  | .ptr _ _=>match y with| .sc (.pointer none)=> .ok false|_=> .no "comparison"
  |_=> .no "comparison"
 | .slice _=>match x with
  | .sl _ _ _ _=>match y with| .sc (.slice none 0 0)=> .ok false|_=> .no "comparison"
  | .so _ _ _ _=>match y with| .sc (.slice none 0 0)=> .ok false|_=> .no "comparison"
  | .lst _ n _=>match y with| .sc (.slice none 0 0)=>(match Nat.blt 0 n with|true=> .ok false|false=> .no "comparison")|_=> .no "comparison"
  | .sc (.slice (some _) _ _)=>match y with| .sc (.slice none 0 0)=> .ok false|_=> .no "comparison"
  |_=> .no "comparison"
 | .func _ _ _=>match x with
  | .fn _ _ _=>match y with| .sc .nilFunc=> .ok false|_=> .no "comparison"
  |_=> .no "comparison"
 |_=> .no "comparison"
inductive Nx where
 |val (v:AV) (s:St)
 |enter (f:FuncId) (args:List AV)
structure Tm where
 t:T AV
 n:Nat
def Tm.get (t:Tm) (i:Nat):AV:=match t.t.get i with|some v=>v|none=> .any
def Tm.put (t:Tm) (d:Option Tmp) (v:AV):R Tm:=
 match d with
 |none=> .ok t
 |some d=>match Nat.blt d t.n with|true=> .ok ⟨t.t.put d (some v),t.n⟩|false=> .no "no such temporary"
def ev (t:Tm):Operand->AV
 | .tmp i=>t.get i
 | .const v=> .sc v
 | .global g=> .sc (.pointer (some ⟨g,0,none⟩))
 | .func f=> .sc (.func (.func f) #[] #[])
def evo (t:Tm):Option Operand->Option AV
 |none=>none
 |some x=>some (ev t x)
def evs (t:Tm):List Operand->List AV
 |[]=>[]
 |x::l=>ev t x::evs t l
def evp (t:Tm):List (Nat×Operand)->List (Nat×AV)
 |[]=>[]
 |p::l=>(p.1,ev t p.2)::evp t l
def zro (place:Nat->Option (Nat×Nat)):List AV->List (Nat×AV)->R (List AV)
 |cells,[]=> .ok cells
 |cells,p::rest=>bd (ofO (place p.1)) λq=>zbh (zeH p.2)<|zbh (Nat.beq p.2.cells.length q.2) (bd (putAt cells q.1 p.2.cells) λc=>zro place c rest)
def ret (s:St) (v:R AV):R Nx:=bd v λv=> .ok (.val v s)
def zoF (r:R (AV×St)):R Nx:=bd r λr=> .ok (.val r.1 r.2)
def zuC (P:Program) (s:St) (e:TypeId):R Nx:=bd (ty P e) λi=>bd (ofO i.zero) λz=> .ok (.val (.ptr s.n 0) (s.new (.row (z.cells.toList.map .sc) e 0)))
def zyE (s:St) (e:TypeId) (x:AV):R Nx:=zbh (zeH x)<| .ok (.val (.ptr s.n 0) (s.new (.row x.cells e 0)))
def zms (P:Program):List Field->R (List (Nat×Nat))
 |[]=> .ok []
 |f::l=>bd (ty P f.type) λi=>bd (zms P l) λr=> .ok ((f.offset,i.size)::r)
def nth {α:Type}:List α->Nat->Option α
 |[],_=>none
 |a::_,0=>some a
 |_::l,k+1=>nth l k
def zuz (P:Program) (s:St) (t:TypeId) (ps:List (Nat×AV)):R Nx:=
 bd (ty P t) λi=>bd (ofO i.zero) λz=>match i.d with
 | .struct fields=>bd (zms P fields.toList) λpl=>ret s (bd (zro (nth pl) (z.cells.toList.map .sc) ps) λl=> .ok (.agg l))
 | .array _ e=>bd (ty P e) λj=>ret s (bd (zro (λi=>some (i*j.size,j.size)) (z.cells.toList.map .sc) ps) λl=> .ok (.agg l))
 |_=> .no "build"
def zh3 (P:Program) (s:St) (t:TypeId) (n:Nat) (ps:List (Nat×AV)):R Nx:=
 bd (ty P t) λi=>bd (zkh i.d) λe=>bd (ty P e) λj=>zbh (Nat.ble (n*j.size) (2^24)) (
 bd (ofO j.zero) λz=>zbh (Nat.beq z.cells.size j.size) (
 bd (zro (λi=>some (i*j.size,j.size)) (zc8 n z) ps) λcs=> .ok (.val (.sl s.n 0 n n) (s.new (.row cs e 0)))))
def zqY (P:Program) (s:St) (t:TypeId) (x:AV):R Nx:=match x with| .ptr b off=>ret s (zcw P s t b off)| .cp cs off=>bd (ty P t) λi=>ret s (zeE i cs off)|_=> .no "load address expected"
def zcY (P:Program) (s:St) (t:TypeId) (x v:AV):R Nx:=
 match x with
 | .ptr b off=>bd (ty P t) λi=>zbh (zeH v)<|zbh (Nat.beq v.cells.length i.size) (bd (zcH s b off v.cells) λs=> .ok (.val AV.undef s))
 |_=> .no "store address expected"
def zer (P:Program) (s:St) (t:TypeId) (l c:AV):R Nx:=
 bd (ty P t) λi=>bd (zkh i.d) λe=>bd (ty P e) λj=>bd (zk8 l) λl=>bd (zk8 c) λc=>
 zbh (Nat.ble l c&&Nat.ble (c*j.bytes) (2^47)&&Nat.ble c (2^60)) (bd (ofO j.zero) λz=>zbh (Nat.beq z.cells.size j.size) (
 .ok (.val (.sl s.n 0 l c) (s.new (.row (zc8 c z) e 0)))))
def zhT (d:TypeDesc) (f:Nat):R Field:=match d with| .struct fields=>ofO (nth fields.toList f)|_=> .no "struct type expected"
def zf7 (P:Program) (s:St) (t:TypeId) (x:AV) (f:Nat):R Nx:=
 match x with
 | .ptr b off=>bd (ty P t) λi=>bd (zhT i.d f) λfd=>bd (ty P fd.type) λj=>zbh (Nat.blt 0 j.size) (.ok (.val (.ptr b (off+fd.offset)) s))
 | .cp cs off=>bd (ty P t) λi=>bd (zhT i.d f) λfd=>bd (ty P fd.type) λj=>zbh (Nat.blt 0 j.size) (.ok (.val (.cp cs (off+fd.offset)) s))
 |_=> .no "fieldAddr address expected"
def zrq (P:Program) (s:St) (t:TypeId) (x:AV) (f:Nat):R Nx:=
 match x with
 | .agg cs=>bd (ty P t) λi=>bd (zhT i.d f) λfd=>bd (ty P fd.type) λj=>ret s (zeE j cs fd.offset)
 | .sc (.agg cs)=>bd (ty P t) λi=>bd (zhT i.d f) λfd=>bd (ty P fd.type) λj=>ret s (zeE j (cs.toList.map .sc) fd.offset)
 |_=> .no "field struct expected"
def zlj (P:Program) (s:St) (d:TypeDesc) (x:AV) (i:Nat):R Nx:=
 match d with
 | .slice e=>match x with
  | .sl b off len _=>zbh (Nat.blt i len) (bd (ty P e) λj=> .ok (.val (.ptr b (off+i*j.size)) s))
  | .so b off len _=>zbh (Nat.blt i len) (bd (ty P e) λj=> .ok (.val (.ptr b (off+i*j.size)) s))
  | .lst sz n f=>zbh (Nat.blt i n) (bd (ty P e) λj=>zbh (Nat.beq sz j.size) (.ok (.val (.cp (f i) 0) s)))
  |_=> .no "indexAddr out of range"
 | .array n e=>match x with
  | .ptr b off=>zbh (Nat.blt i n) (bd (ty P e) λj=> .ok (.val (.ptr b (off+i*j.size)) s))
  | .cp cs off=>zbh (Nat.blt i n) (bd (ty P e) λj=> .ok (.val (.cp cs (off+i*j.size)) s))
  |_=> .no "indexAddr"
 |_=> .no "indexAddr"
def zcC (P:Program) (s:St) (t:TypeId) (x i:AV):R Nx:=bd (zk8 i) λi=>bd (ty P t) λd=>zlj P s d.d x i
def zv4 (b:ByteArray) (i:Nat):R AV:=bd (ofO (nth b.data.toList i)) λc=> .ok (zbf c)
def znW (P:Program) (s:St) (t:TypeId) (x i:AV):R Nx:=
 bd (zk8 i) λi=>match x with
 | .sc (.string b)=>bd (ty P t) λd=>match d.d with| .string=>ret s (zv4 b i)|_=> .no "index"
 | .agg cs=>bd (ty P t) λd=>match d.d with| .array n e=>zbh (Nat.blt i n) (bd (ty P e) λj=>ret s (zeE j cs (i*j.size)))|_=> .no "index"
 | .sc (.agg cs)=>bd (ty P t) λd=>match d.d with| .array n e=>zbh (Nat.blt i n) (bd (ty P e) λj=>ret s (zeE j (cs.toList.map .sc) (i*j.size)))|_=> .no "index"
 |_=> .no "index"
def zqr (P:Program) (s:St) (t:TypeId) (x:AV):R Nx:=
 match x with
 | .sc (.string b)=>bd (ty P t) λd=>match d.d with| .string=> .ok (.val (.ptr s.n 0) (s.new (.iter b 0)))|_=> .no "range"
 |_=> .no "range of what"
def zvq (s:St) (x:AV) (isString:Bool):R Nx:=
 match x with
 | .ptr b 0=>bd (ofO (s.h.get b)) λo=>match o with
  | .iter bs pos=>zbh isString (match Nat.blt pos bs.size with
   |true=> .ok (.val (.sc (.tuple #[.bool true,goInt pos, .int .i32 (Utf8.decode bs pos).1])) (s.set b (.iter bs (pos+(Utf8.decode bs pos).2))))
   |false=> .ok (.val (.sc (.tuple #[.bool false])) s))
  |_=> .no "next"
 |_=> .no "next iterator expected"
def isIface :TypeDesc->Bool
 | .interface _=>true
 |_=>false
def okV (ok:Bool) (v:AV):AV:=match ok with|true=> .tup [v, .sc (.bool true)]|false=>v
def zmZ (s:St) (t asserted:TypeId) (v:AV) (z:Option Value) (ok:Bool):R Nx:=
 match Nat.beq t asserted with
 |true=> .ok (.val (okV ok v) s)
 |false=>zbh ok (bd (ofO z) λz=> .ok (.val (.tup [.sc z, .sc (.bool false)]) s))
def zeM (P:Program) (s:St) (x:AV) (asserted:TypeId) (ok:Bool):R Nx:=
 match x with
 | .ifc t v=>bd (ty P asserted) λi=>zbh (!isIface i.d) (zmZ s t asserted v i.zero ok)
 |_=> .no "typeAssert"
def zke (s:St) (x:AV) (i:Nat):R Nx:=
 match x with
 | .tup l=>ret s (zqD l i)
 | .sc (.tuple l)=>bd (ofO (nth l.toList i)) λv=> .ok (.val (.sc v) s)
 |_=> .no "extract"
def zhD (s:St) (x:AV):R Nx:=
 match x with
 | .ptr b off=> .ok (.val (.ptr b off) s)
 | .cp cs off=> .ok (.val (.cp cs off) s)
 | .ifc t v=> .ok (.val (.ifc t v) s)
 | .fn (.func f) a b=> .ok (.val (.fn (.func f) a b) s)
 | .sc (.func (.func f) a b)=> .ok (.val (.sc (.func (.func f) a b)) s)
 | .sc (.pointer (some a))=> .ok (.val (.sc (.pointer (some a))) s)
 |_=> .no "nilCheck"
def zeI (P:Program) (s:St) (t:TypeId) (x:AV):R Nx:=bd (ty P t) λi=>zbh (!isIface i.d) (.ok (.val (.ifc t x) s))
def zgu (P:Program) (f:FuncId) (args:List AV):R Nx:=
 match P.funcs[f]? with
 |none=> .no "no such function"
 |some fn=>match fn.name== "runtime.NumGoroutine" with
  |true=> .no "NumGoroutine"
  |false=>match fn.body with
   |none=> .no fn.name
   |some _=> .ok (.enter f args)
def zv6 (P:Program) (x:AV) (args:List AV):R Nx:=
 match x with
 | .sc (.func (.func f) first captured)=>zgu P f (first.toList.map .sc++(args++captured.toList.map .sc))
 | .fn (.func f) first captured=>zgu P f (first++(args++captured))
 |_=> .no "call of what"
def zx0 (P:Program) (s:St) (t:TypeId) (x:AV):R Nx:=
 match x with
 | .sc (.string b)=>bd (ty P t) λd=>match d.d with| .string=> .ok (.val (.sc (.int .i64 b.size)) s)|_=> .no "len"
 |_=>bd (ty P t) λd=>match d.d with| .slice _=>bd (zyQ x) λn=> .ok (.val (.sc (.int .i64 n)) s)|_=> .no "len"
def zyR (P:Program) (s:St) (t:TypeId) (x:AV):R Nx:=
 bd (ty P t) λd=>match d.d with
 | .slice _=>match x with
  | .sc (.slice none 0 0)=> .ok (.val (.sc (.int .i64 0)) s)
  | .sl _ _ _ c=> .ok (.val (.sc (.int .i64 c)) s)
  |_=> .no "cap"
 |_=> .no "cap"
def zuy (P:Program) (s:St) (t:TypeId) (x:AV):R Nx:=bd (zrQ P t) λz=>bd (zlC s x z) λs'=> .ok (.val (.tup []) s')
def zfu (a b:Int):Int:=if b<a then b else a
def zyn (s:St) (x y:AV):R Nx:=
 match x with
 | .sc (.int k a)=>match y with| .sc (.int _ b)=> .ok (.val (.sc (.int k (zfu a b))) s)|_=> .no "min"
 |_=> .no "min"
def zxc (a b:Int):Int:=if b>a then b else a
def zyo (s:St) (x y:AV):R Nx:=
 match x with
 | .sc (.int k a)=>match y with| .sc (.int _ b)=> .ok (.val (.sc (.int k (zxc a b))) s)|_=> .no "max"
 |_=> .no "max"
def zeA (P:Program) (s:St) (b:Builtin) (ts:List TypeId) (args:List AV):R Nx:=
 match b with
 | .append=>match ts,args with|[tx,ty'],[x,y]=>zoF (zkv P s tx ty' x y)|_,_=> .no "append"
 | .copy=>match ts,args with|[tx,_],[x,y]=>zoF (zxE P s tx x y)|_,_=> .no "copy"
 | .len=>match ts,args with|[t],[x]=>zx0 P s t x|_,_=> .no "len"
 | .cap=>match ts,args with|[t],[x]=>zyR P s t x|_,_=> .no "cap"
 | .clear=>match ts,args with|[t],[x]=>zuy P s t x|_,_=> .no "clear"
 | .min=>match ts,args with|[_,_],[x,y]=>zyn s x y|_,_=> .no "min"
 | .max=>match ts,args with|[_,_],[x,y]=>zyo s x y|_,_=> .no "max"
 |_=> .no "builtin"
def bytesOf :List AV->R (List UInt8)
 |[]=> .ok []
 | .sc (.int .u8 n)::l=>bd (bytesOf l) λl=> .ok (UInt8.ofNat n.toNat::l)
 |_=> .no "byte expected"
def zdv (P:Program) (e:TypeId):Bool:=match P.underlying e with|some (.int .u8)=>true|_=>false
def zmS (P:Program) (s:St) (src dst:TypeDesc) (x:AV):R Nx:=
 match src with
 | .slice e=>match dst with
  | .string=>zbh (zdv P e) (match x with
   | .sc (.slice none 0 0)=> .ok (.val (.sc (.string .empty)) s)
   | .sl b off len _=>bd (zeF s b off len) λcs=>bd (bytesOf cs) λbs=> .ok (.val (.sc (.string ⟨bs.toArray⟩)) s)
   | .so b off len _=>bd (zeF s b off len) λcs=>bd (bytesOf cs) λbs=> .ok (.val (.sc (.string ⟨bs.toArray⟩)) s)
   |_=> .no "convert")
  |_=> .no "convert"
 | .string=>match dst with
  | .slice e=>zbh (zdv P e) (match x with
   | .sc (.string b)=>zbh (Nat.ble b.size (2^47)) (.ok (.val (.so s.n 0 b.size 0) (s.new (.row (b.data.toList.map zbf) e 1))))
   |_=> .no "convert")
  |_=> .no "convert"
 |_=> .no "convert"
def zjV :Op->Bool
 | .select _ _=>true
 |_=>false
def zua (s:St) (r:R Next):R Nx:=match r with| .ok (.value v)=> .ok (.val (.sc v) s)|_=> .no "no plain value"
def zuI (r:R Value):Value:=match r with| .ok v=>v| .no _=>Go.undef
def zaR (P:Program) (t:Tm) (s:St) (o:Oper):R Nx:=
 bd (AV.val.vals (evs t o.op.operands.toList)) λ_=>zbh (!zjV o.op) (zua s (pure? P (execOp (λx=>zuI (ev t x).val) o)))
def znh (n:Int):Bool:=match n with| .ofNat n=>Nat.ble n 9223372036854775807| .negSucc n=>Nat.ble n 9223372036854775807
def zym (n:Nat) (k:Nat->R Nx):R Nx:=match n with|0=>k 0|p+1=>k (p+1)
def zys (n:Int) (k:Int->R Nx):R Nx:=match n with| .ofNat m=>zym m λm=>k (.ofNat m)| .negSucc m=>zym m λm=>k (.negSucc m)
def zg7 (k:IntKind) (n:Int) (s:St) (other:R Nx):R Nx:=
 match k with
 | .i64=>match znh n with|true=>zys n λn=> .ok (.val (.sc (.int .i64 n)) s)|false=>other
 |_=>other
def zgD (s:St) (b:Bool):R Nx:=match b with|true=> .ok (.val (.sc (.bool true)) s)|false=> .ok (.val (.sc (.bool false)) s)
def zgt (op:BinOp) (k:IntKind) (a b:Int) (s:St) (other:R Nx):R Nx:=
 match op with
 | .add=>zg7 k (a+b) s other
 | .sub=>zg7 k (a-b) s other
 | .mul=>zg7 k (a*b) s other
 | .eql=>zgD s (a==b)
 | .neq=>zgD s (a !=b)
 | .lss=>zgD s (decide (a<b))
 | .leq=>zgD s (decide (a<=b))
 | .gtr=>zgD s (decide (a>b))
 | .geq=>zgD s (decide (a≥b))
 |_=>other
def zyr (k:IntKind):Bool:=match k with| .i64=>true|_=>false
def sameKind (k k':IntKind):Bool:=match k with| .i64=>zyr k'|_=>k==k'
def zx5 (P:Program) (eq:TypeId->AV->AV->R Bool):List Field->List AV->List AV->R Bool
 |[],_,_=> .ok true
 |f::l,xs,ys=>match f.name== "_" with
  |true=> .no "a blank field"
  |false=>bd (ty P f.type) λi=>bd (zeE i xs f.offset) λx=>bd (zeE i ys f.offset) λy=>bd (eq f.type x y) λb=>bd (zx5 P eq l xs ys) λc=> .ok (b&&c)
def eqS (x y:Value):R Bool:=
 match x with
 | .int k a=>match y with| .int k' b=>zbh (sameKind k k') (.ok (decide (a=b)))|_=> .no "=="
 | .bool a=>match y with| .bool b=> .ok (a==b)|_=> .no "=="
 | .string ⟨⟨a⟩⟩=>match y with| .string ⟨⟨b⟩⟩=> .ok (decide (a=b))|_=> .no "=="
 |_=> .no "=="
def ztN :AV->R (List AV)
 | .agg l=> .ok l
 | .sc (.agg cs)=> .ok (cs.toList.map .sc)
 |_=> .no "agg"
def zwS :AV->R Value
 | .sc v=> .ok v
 |_=> .no "scalar"
def eqD (d:TypeDesc) (x:Value):Bool:=match d with| .int _=>(match x with| .int _ _=>true|_=>false)| .bool=>(match x with| .bool _=>true|_=>false)| .string=>(match x with| .string _=>true|_=>false)|_=>false
def eqT (P:Program):Nat->TypeId->AV->AV->R Bool
 |0,_,_,_=> .no "=="
 |n+1,t,x,y=>match P.underlying t with
  |some (.struct fs)=>zbh (!P.stoodInHeld t) (bd (ztN x) λxs=>bd (ztN y) λys=>zx5 P (eqT P n) fs.toList xs ys)
  |some d=>bd (zwS x) λx=>bd (zwS y) λy=>zbh (eqD d x) (eqS x y)
  |none=> .no "=="
def eqW (P:Program) (t:TypeId) (x y:AV):R Bool:=zbh (!P.eqGuardType P.depth t) (eqT P 20 t x y)
def eqO (P:Program) (t:TypeId) (x y:AV):R Bool:=match bd (ty P t) (λi=>eqA i.d x y) with| .ok b=> .ok b| .no _=>eqW P t x y
def eqB (P:Program) (op:BinOp) (t:TypeId) (s:St) (x y:AV) (other:R Nx):R Nx:=
 match op with
 | .eql=>match eqO P t x y with| .ok b=>zgD s b| .no _=>other
 | .neq=>match eqO P t x y with| .ok b=>zgD s (!b)| .no _=>other
 |_=>other
def zr0 (P:Program) (t:Tm) (s:St) (o:Oper) (op:BinOp) (xt:TypeId) (x y:AV):R Nx:=
 match x with
 | .sc (.int k a)=>match y with
  | .sc (.int k' b)=>match sameKind k k' with|true=>zgt op k a b s (zaR P t s o)|false=>zaR P t s o
  |_=>zaR P t s o
 |_=>eqB P op xt s x y (zaR P t s o)
def zmT (P:Program) (t:Tm) (s:St) (o:Oper) (src dst:TypeId) (x:AV):R Nx:=
 bd (ty P src) λi=>bd (ty P dst) λj=>match zmS P s i.d j.d x with| .ok r=> .ok r| .no _=>zaR P t s o
def zsS (s:St) (c a b:AV):R Nx:=match c with| .sc (.bool k)=> .ok (.val (match k with|true=>a|false=>b) s)|_=> .no "pick"
def unA (P:Program) (t:Tm) (s:St) (o:Oper) (op:UnOp) (x:AV):R Nx:=
 match op,x with
 | .not, .sc (.bool b)=>zgD s (!b)
 | .neg, .sc (.int k a)=>zg7 k (0-a) s (zaR P t s o)
 |_,_=>zaR P t s o
def zvu (P:Program) (t:TypeId) (name:String):R (FuncId×Bool):=
 bd (ofO (P.info? t)) λi=>bd (ofO (i.methods.find? (·.name==name))) λm=>zbh m.path.isEmpty (ofO m.func)
def zmE (P:Program) (t:TypeId) (v:AV) (name:String) (args:List AV):R Nx:=
 bd (zvu P t name) λf=>bd (ty P t) λi=>match i.d with
 | .pointer _=>zbh f.2 (zgu P f.1 (v::args))
 |_=>zbh (!f.2) (zgu P f.1 (v::args))
def zij (P:Program) (t:Tm) (s:St) (o:Oper) (c:Call):R Nx:=
 match c.callee with
 | .value f=>zv6 P (ev t f) (evs t c.args.toList)
 | .builtin b=>match zeA P s b c.argTypes.toList (evs t c.args.toList) with| .ok r=> .ok r| .no _=>zaR P t s o
 | .invoke r name=>match ev t r with
  | .ifc ty v=>zmE P ty v name (evs t c.args.toList)
  | .sc (.iface ty v)=>zmE P ty (.sc v) name (evs t c.args.toList)
  |_=> .no "invoke"
inductive Cmp where
 |mk (f:Tm->St->R Nx)
def comp (P:Program) (o:Oper):Cmp:=
 match o.op with
 | .move x=> .mk λt s=> .ok (.val (ev t x) s)
 | .assign x=> .mk λt s=> .ok (.val (ev t x) s)
 | .pick c a b=> .mk λt s=>zsS s (ev t c) (ev t a) (ev t b)
 | .alloc e=> .mk λt s=>zuC P s e
 | .box e x=> .mk λt s=>zyE s e (ev t x)
 | .build ty ps=> .mk λt s=>zuz P s ty (evp t ps.toList)
 | .buildSlice ty n ps=> .mk λt s=>zh3 P s ty n (evp t ps.toList)
 | .load ty a=> .mk λt s=>zqY P s ty (ev t a)
 | .store ty a x=> .mk λt s=>zcY P s ty (ev t a) (ev t x)
 | .nilCheck x=> .mk λt s=>zhD s (ev t x)
 | .binOp op xt x y _=> .mk λt s=>zr0 P t s o op xt (ev t x) (ev t y)
 | .unOp op _ x=> .mk λt s=>unA P t s o op (ev t x)
 | .convert src dst x=> .mk λt s=>zmT P t s o src dst (ev t x)
 | .makeInterface ty x=> .mk λt s=>zeI P s ty (ev t x)
 | .makeFunc f first captured=> .mk λt s=> .ok (.val (.fn f (evs t first.toList) (evs t captured.toList)) s)
 | .makeSlice ty l c=> .mk λt s=>zer P s ty (ev t l) (ev t c)
 | .slice ty x lo hi mx=> .mk λt s=>zoF (zdS P s ty (ev t x) (evo t lo) (evo t hi) (evo t mx))
 | .fieldAddr sty x f=> .mk λt s=>zf7 P s sty (ev t x) f
 | .field ty x f=> .mk λt s=>zrq P s ty (ev t x) f
 | .indexAddr ty x i=> .mk λt s=>zcC P s ty (ev t x) (ev t i)
 | .index ty x i=> .mk λt s=>znW P s ty (ev t x) (ev t i)
 | .range ty x=> .mk λt s=>zqr P s ty (ev t x)
 | .next it isString=> .mk λt s=>zvq s (ev t it) isString
 | .typeAssert x _ asserted ok=> .mk λt s=>zeM P s (ev t x) asserted ok
 | .extract x i=> .mk λt s=>zke s (ev t x) i
 | .call c=> .mk λt s=>zij P t s o c
 |_=> .mk λ_ _=> .no "another operation"
def za7 (P:Program) (t:Tm) (s:St) (o:Oper):R Nx:=match comp P o with| .mk f=>f t s
inductive Xt where
 |normal
 |exit (id:Nat)
 |ret
def ztp (ops:List Oper) (j:Nat):Option Tmp:=match nth ops j with|some o=>o.dst|none=>none
def zcr (ops:List Oper) (t:Tm) (o:Oper):Option Bool:=
 match o.guard with
 |none=>some true
 |some (j,want)=>match ztp ops j with
  |none=>some false
  |some d=>match t.get d with
   | .sc (.bool b)=>some (b==want)
   | .any=>none
   |_=>some false
def zf2 :Nat->T AV->List AV->T AV
 |_,t,[]=>t
 |i,t,v::l=>zf2 (Nat.succ i) (t.put i (some v)) l
inductive Job where
 |code (c:Code) (t:Tm) (s:St)
 |call (f:FuncId) (args:List AV) (s:St)
inductive Out where
 |code (x:Xt) (t:Tm) (s:St)
 |call (v:AV) (s:St)
def zqk (P:Program) (t:Tm) (s:St) (r:ResultVar):R AV:=
 match r with
 | .tmp i=> .ok (t.get i)
 | .cell i ty=>match t.get i with
  | .ptr b off=>zcw P s ty b off
  |_=> .no "result address expected"
def zfg (P:Program) (t:Tm) (s:St):List ResultVar->R (List AV)
 |[]=> .ok []
 |r::l=>bd (zqk P t s r) λv=>bd (zfg P t s l) λl=> .ok (v::l)
def zbn :List AV->AV
 |[v]=>v
 |l=> .tup l
def opsL (P:Program) (run:Job->R Out) (ops:List Oper):List Oper->Tm->St->R (Tm×St)
 |[],t,s=> .ok (t,s)
 |o::rest,t,s=>
  match zcr ops t o with
  |none=> .no "guard"
  |some true=>
   match za7 P t s o with
   | .no e=> .no (e++ " at " ++o.pos)
   | .ok (.val v s')=>zbh (Nat.ble s.n s'.n) (bd (t.put o.dst v) λt=>opsL P run ops rest t s')
   | .ok (.enter f args)=>
    match run (.call f args s) with
    | .no e=> .no (e++ " at " ++o.pos)
    | .ok (.call v s')=>zbh (Nat.ble s.n s'.n) (bd (t.put o.dst v) λt=>opsL P run ops rest t s')
    | .ok _=> .no "run"
  |some false=>bd (t.put o.dst AV.undef) λt=>opsL P run ops rest t s
def zgC :List Nat->Nat->Nat
 |[],_=>0
 |a::_,0=>a
 |_::l,k+1=>zgC l k
def zdd :List Edge->List Nat->Nat
 |[],_=>0
 |e::l,acc=>match Region.binds .any e with
  |true=>Nat.lor (Nat.lor (Nat.pow 2 e.on) (zgC acc e.on)) (zdd l acc)
  |false=>zdd l acc
def zjJ :List Oper->List Nat->List Nat
 |[],acc=>acc
 |o::l,acc=>zjJ l (acc++[zdd o.after.toList acc])
def bit (m i:Nat):Bool:=Nat.beq (Nat.mod (Nat.shiftRight m i) 2) 1
def zpi (j:Nat):List Edge->Bool
 |[]=>true
 |e::l=>match Region.binds .any e with
  |true=>match Nat.blt e.on j with|true=>zpi j l|false=>false
  |false=>zpi j l
def zuk (d:Tmp):List Tmp->Bool
 |[]=>false
 |e::l=>match Nat.beq d e with|true=>true|false=>zuk d l
def zoL (looks:Oper->List Tmp) (i:Nat) (x:Oper) (y:Oper) (my:Nat):Bool:=
 match x.dst with
 |some d=>match y.dst with
  |some e=> !(Nat.beq d e)&&(bit my i||(!(zuk d (looks y))&& !(zuk e (looks x))))
  |none=>bit my i|| !(zuk d (looks y))
 |none=>match y.dst with
  |some e=>bit my i|| !(zuk e (looks x))
  |none=>true
def zk2 (looks:Oper->List Tmp) (i:Nat) (y:Oper) (my:Nat):List Oper->Bool
 |[]=>true
 |x::l=>match zoL looks i x y my with|true=>zk2 looks (Nat.succ i) y my l|false=>false
def ztr (looks:Oper->List Tmp) (ms:List Nat) (j:Nat) (before:List Oper):List Oper->Bool
 |[]=>true
 |y::l=>match zpi j y.after.toList&&zk2 looks 0 y (zgC ms j) before with
  |true=>ztr looks ms (Nat.succ j) (before++[y]) l
  |false=>false
def zqG (ops:Array Oper):Bool:=ztr (Oper.looksAt ops) (zjJ ops.toList []) 0 [] ops.toList
def vEq :Value->Value->Bool
 | .bool a, .bool b=>a==b
 | .int k a, .int k' b=>k==k'&&a==b
 | .string a, .string b=>a.data.toList==b.data.toList
 | .pointer none, .pointer none=>true
 | .slice none 0 0, .slice none 0 0=>true
 | .nilFunc, .nilFunc=>true
 | .nilIface, .nilIface=>true
 |_,_=>false
def avEq :AV->AV->Bool
 | .sc a, .sc b=>vEq a b
 | .ptr a b, .ptr c d=>Nat.beq a c&&Nat.beq b d
 | .sl a b c d, .sl e f g h=>Nat.beq a e&&Nat.beq b f&&Nat.beq c g&&Nat.beq d h
 | .so a b c d, .so e f g h=>Nat.beq a e&&Nat.beq b f&&Nat.beq c g&&Nat.beq d h
 | .agg l, .agg l'=>avsEq l l'
 |_,_=>false
where avsEq:List AV->List AV->Bool
 |[],[]=>true
 |a::l,b::l'=>avEq a b&&avsEq l l'
 |_,_=>false
structure DS where
 t:Tm
 h:T AO
 n:Nat
 pend:List (Nat×Nat×AO)
 hv:List (Nat×T AO)
 lds:List (Nat×TypeId×Nat×Nat×AV)
def ziH (P:Program) (h:T AO) (ty:TypeId) (b off:Nat) (v:AV):Bool:=match zcw P ⟨h,0⟩ ty b off with| .ok v'=>avEq v' v| .no _=>false
def zqF (P:Program) (ty:TypeId) (b off:Nat) (v:AV) (mask:Nat):List (Nat×T AO)->Bool
 |[]=>true
 |(i,h)::l=>match bit mask i with|true=>zqF P ty b off v mask l|false=>match ziH P h ty b off v with|true=>zqF P ty b off v mask l|false=>false
def zs4 (P:Program) (h:T AO) (mask:Nat):List (Nat×TypeId×Nat×Nat×AV)->Bool
 |[]=>true
 |(i,ty,b,off,v)::l=>match bit mask i||ziH P h ty b off v with|true=>zs4 P h mask l|false=>false
def zre (mask:Nat):List (Nat×T AO)->Bool
 |[]=>true
 |(i,_)::l=>match bit mask i with|true=>zre mask l|false=>false
def zbD (mask:Nat):List (Nat×Nat×AO)->List (Nat×Nat×AO)
 |[]=>[]
 |(i,q)::l=>match bit mask i with|true=>(i,q)::zbD mask l|false=>zbD mask l
def zcn (mask:Nat):List (Nat×Nat×AO)->List (Nat×Nat×AO)
 |[]=>[]
 |(i,q)::l=>match bit mask i with|true=>zcn mask l|false=>(i,q)::zcn mask l
def merge (h:T AO):List (Nat×Nat×AO)->T AO
 |[]=>h
 |(_,b,o)::l=>(merge h l).put b (some o)
def zwp (d:DS) (dst:Option Tmp) (v:AV):R DS:=bd (d.t.put dst v) λt=> .ok ⟨t,d.h,d.n,d.pend,d.hv,d.lds⟩
def zug (d:DS) (j:Nat) (o:Oper) (v:AV) (s:St):R DS:=
 match Nat.beq s.n d.n with
 |true=>zwp d o.dst v
 |false=>zbh (Nat.beq s.n (Nat.succ d.n)) (bd (ofO (s.h.get d.n)) λao=>zwp ⟨d.t,d.h,s.n,(j,d.n,ao)::d.pend,d.hv,d.lds⟩ o.dst v)
def zrf (P:Program) (d:DS) (j:Nat) (o:Oper) (mask:Nat) (v:AV) (s:St):R DS:=
 zbh (Nat.ble d.n s.n&&zs4 P s.h mask d.lds) (zwp ⟨d.t,s.h,s.n,zcn mask d.pend,(j,d.h)::d.hv,d.lds⟩ o.dst v)
def zxm (P:Program) (run:Job->R Out) (d:DS) (j:Nat) (o:Oper) (mask:Nat) (s:St):R DS:=
 zbh (zre mask d.hv) (match za7 P d.t s o with
 | .no e=> .no (e++ " at " ++o.pos)
 | .ok (.val v s')=>zrf P d j o mask v s'
 | .ok (.enter f args)=>match run (.call f args s) with
  | .no e=> .no (e++ " at " ++o.pos)
  | .ok (.call v s')=>zrf P d j o mask v s'
  | .ok _=> .no "run")
def zxi (P:Program) (d:DS) (j:Nat) (o:Oper) (mask:Nat) (ty:TypeId) (x:AV):R DS:=
 match x with
 | .ptr b off=>bd (zcw P ⟨d.h,0⟩ ty b off) λv=>zbh (zqF P ty b off v mask d.hv) (zwp ⟨d.t,d.h,d.n,d.pend,d.hv,(j,ty,b,off,v)::d.lds⟩ o.dst v)
 |_=> .no "load address expected"
def zuj :Op->Option (TypeId×Operand)
 | .load ty x=>some (ty,x)
 |_=>none
def zuQ (P:Program) (run:Job->R Out) (ops:List Oper) (d:DS) (j:Nat) (o:Oper) (mask:Nat):R DS:=
 match zcr ops d.t o with
 |none=> .no "guard"
 |some false=>zwp d o.dst AV.undef
 |some true=>match zuj o.op with
  |some (ty,x)=>zxi P d j o mask ty (ev d.t x)
  |none=>match za7 P d.t ⟨.e,d.n⟩ o with
   | .ok (.val v s)=>zug d j o v s
   |_=>zxm P run d j o mask ⟨merge d.h (zbD mask d.pend),d.n⟩
def zvV (P:Program) (run:Job->R Out) (ops:List Oper) (ms:List Nat):Nat->List Oper->DS->R DS
 |_,[],d=> .ok d
 |j,o::rest,d=>bd (zuQ P run ops d j o (zgC ms j)) λd=>zvV P run ops ms (Nat.succ j) rest d
def zvW (P:Program) (run:Job->R Out) (ops:Array Oper) (t:Tm) (s:St):R (Tm×St):=
 zbh (zqG ops) (bd (zvV P run ops.toList (zjJ ops.toList []) 0 ops.toList ⟨t,s.h,s.n,[],[],[]⟩) λd=> .ok (d.t,⟨merge d.h d.pend,d.n⟩))
abbrev Ext :=FuncId->List AV->St->Option (R (AV×St))
def zv7 (P:Program) (run:Job->R Out) (f:FuncId) (args:List AV) (s:St):R Out:=
 match P.funcs[f]? with
 |none=> .no "no such function"
 |some fn=>match fn.body with
  |none=> .no "no body"
  |some c=>
   match run (.code c ⟨zf2 0 .e args,Nat.add args.length (Nat.sub fn.ntmps args.length)⟩ s) with
   | .no e=> .no e
   | .ok (.code (.exit _) _ _)=> .no "an exit"
   | .ok (.code _ t s)=>bd (zfg P t s fn.results.toList) λl=> .ok (.call (zbn l) s)
   | .ok _=> .no "run"
def zrO (P:Program) (run:Job->R Out) (c:Code) (t:Tm) (s:St):R Out:=
 match c with
 | .skip=> .ok (.code .normal t s)
 | .label _=> .ok (.code .normal t s)
 | .exit id=> .ok (.code (.exit id) t s)
 | .ret=> .ok (.code .ret t s)
 | .region _ ops draw=>match draw with
  |false=>bd (opsL P run ops.toList ops.toList t s) λr=> .ok (.code .normal r.1 r.2)
  |true=>bd (zvW P run ops t s) λr=> .ok (.code .normal r.1 r.2)
 | .seq a b=>match run (.code a t s) with
  | .ok (.code .normal t s)=>run (.code b t s)
  |r=>r
 | .cond x a b=>match ev t x with
  | .sc (.bool true)=>run (.code a t s)
  | .sc (.bool false)=>run (.code b t s)
  |_=> .no "cond"
 | .block id a=>match run (.code a t s) with
  | .ok (.code (.exit i) t s)=>match Nat.beq i id with|true=> .ok (.code .normal t s)|false=> .ok (.code (.exit i) t s)
  |r=>r
 | .loop a=>match run (.code a t s) with
  | .ok (.code .normal t s)=>run (.code (.loop a) t s)
  |r=>r
 |_=> .no "other code"
def step (P:Program) (ext:Ext) (run:Job->R Out) (j:Job):R Out:=
 match j with
 | .code c t s=>zrO P run c t s
 | .call f args s=>match ext f args s with
  |some r=>bd r λr=> .ok (.call r.1 r.2)
  |none=>zv7 P run f args s
def run (P:Program) (ext:Ext):Nat->Job->R Out
 |0=>λ_=> .no "fuel"
 |k+1=>step P ext (run P ext k)
end Go.Ex
namespace Go.Ex
open Go
section
variable {α : Type}
theorem zwc {k:Nat} (h:k≠0):Nat.beq k 0=false:=by
 cases h':Nat.beq k 0 with
 |false=>rfl
 |true=>exact absurd (yjX h') h
theorem T.get_n1 (l r:T α) (v:Option α) (k:Nat):(T.n l v r).get (k+1)=if k%2=0 then l.get (k/2) else r.get (k/2):=by
 show(match Nat.beq (k%2) 0 with|true=>l.get (k/2)|false=>r.get (k/2))=_;by_cases h:k%2=0
 ·rw[ygX h,h]
 ·rw[yfX h,zwc h]
theorem T.putE_e0 (d:Nat) (x:Option α):T.putE (d+1) 0 x= .n .e x .e:=rfl
theorem T.put_n0 (l r:T α) (v x:Option α):T.put (.n l v r) 0 x= .n l x r:=rfl
theorem T.putE_e1 (d k:Nat) (x:Option α):T.putE (d+1) (k+1) x=if k%2=0 then .n (T.putE d (k/2) x) none .e else .n .e none (T.putE d (k/2) x):=by
 show(match Nat.beq (k%2) 0 with|true=>T.n (T.putE d (k/2) x) none .e|false=>T.n .e none (T.putE d (k/2) x))=_;by_cases h:k%2=0
 ·rw[ygX h,h]
 ·rw[yfX h,zwc h]
theorem T.put_n1 (k:Nat) (l r:T α) (v x:Option α):T.put (.n l v r) (k+1) x=if k%2=0 then .n (T.put l (k/2) x) v r else .n l v (T.put r (k/2) x):=by
 show(match Nat.beq (k%2) 0 with|true=>T.n (T.put l (k/2) x) v r|false=>T.n l v (T.put r (k/2) x))=_;by_cases h:k%2=0
 ·rw[ygX h,h]
 ·rw[yfX h,zwc h]
theorem inR_iff {a b k:Nat}:inR a b k=true↔a<=k/\k<b:=by
 unfold inR
 cases h:Nat.ble a k with
 |true=>
  have:=ynX h;constructor
  ·exact λh=>⟨this,ynX h⟩
  ·exact λh=>ysY h.2
 |false=>
  constructor
  ·intro h;cases h
  ·rintro⟨h1,_⟩;rw[ysY h1] at h;cases h
theorem zhP {a b k:Nat} (h:¬(a<=k/\k<b)):inR a b k=false:=by
 cases h2:inR a b k with
 |false=>rfl
 |true=>exact absurd (inR_iff.1 h2) h
theorem T.get_f (a b:Nat) (g:Nat->Option α) (t:T α) (k:Nat):(T.f a b g t).get k=if a<=k/\k<b then g (k-a) else t.get k:=by
 show(match inR a b k with|true=>g (k-a)|false=>t.get k)=_;by_cases h:a<=k/\k<b
 ·rw[ygX h,inR_iff.2 h]
 ·rw[yfX h,zhP h]
theorem T.put_f (a b:Nat) (g:Nat->Option α) (t:T α) (k:Nat) (x:Option α):(T.f a b g t).put k x=if a<=k/\k<b then .f a b (zpD g (k-a) x) t else .f a b g (t.put k x):=by
 show(match inR a b k with|true=>T.f a b (zpD g (k-a) x) t|false=> .f a b g (t.put k x))=_;by_cases h:a<=k/\k<b
 ·rw[ygX h,inR_iff.2 h]
 ·rw[yfX h,zhP h]
theorem zcF (g:Nat->Option α) (k:Nat) (x:Option α) (j:Nat):zpD g k x j=if j=k then x else g j:=by
 unfold zpD;by_cases h:j=k
 ·subst h;rw[ygX rfl,ylY]
 ·rw[yfX h]
  cases h2:Nat.beq j k with
  |false=>rfl
  |true=>exact absurd (yjX h2) h
theorem T.get_putE :∀(d:Nat) (k:Nat) (x:Option α) (j:Nat),k<d->(T.putE d k x).get j=if j=k then x else none:=by
 intro d
 induction d with
 |zero=>intro k x j h;omega
 |succ d ih=>
  intro k x j h
  cases k with
  |zero=>
   rw[T.putE_e0]
   cases j with
   |zero=>rfl
   |succ j=>rw[T.get_n1,yfX (Nat.succ_ne_zero j)];split<;>rfl
  |succ k=>
   rw[T.putE_e1]
   cases j with
   |zero=>rw[yfX (show ¬(0=k+1) from λh=>by cases h)];split<;>rfl
   |succ j=>
    by_cases hk:k%2=0
    ·rw[ygX hk,T.get_n1,ih _ _ _ zo];by_cases hj:j%2=0
     ·rw[ygX hj];by_cases e:j=k
      ·rw[ygX zo,ygX zo]
      ·rw[yfX zo,yfX zo]
     ·rw[yfX hj,yfX zo];rfl
    ·rw[yfX hk,T.get_n1,ih _ _ _ zo];by_cases hj:j%2=0
     ·rw[ygX hj,yfX zo];rfl
     ·rw[yfX hj];by_cases e:j=k
      ·rw[ygX zo,ygX zo]
      ·rw[yfX zo,yfX zo]
theorem T.get_put :∀(t:T α) (k:Nat) (x:Option α) (j:Nat),(t.put k x).get j=if j=k then x else t.get j
 | .e,k,x,j=>by rw[show(T.e:T α).put k x=T.putE (k+1) k x from rfl,T.get_putE _ _ _ _ (ysZ k)];rfl
 | .f a b g t,k,x,j=>by
  rw[T.put_f];by_cases h:a<=k/\k<b
  ·rw[ygX h,T.get_f,T.get_f];by_cases hj:a<=j/\j<b
   ·rw[ygX hj,ygX hj,zcF];by_cases e:j=k
    ·rw[ygX zo,ygX e]
    ·rw[yfX zo,yfX e]
   ·rw[yfX hj,yfX hj,yfX zo]
  ·rw[yfX h,T.get_f,T.get_f,T.get_put t k x j];by_cases hj:a<=j/\j<b
   ·rw[ygX hj,ygX hj,yfX zo]
   ·rw[yfX hj,yfX hj]
 | .n l v r,0,x,j=>by
  rw[T.put_n0]
  cases j with
  |zero=>rfl
  |succ j=>rw[T.get_n1,T.get_n1,yfX (Nat.succ_ne_zero j)]
 | .n l v r,k+1,x,j=>by
  rw[T.put_n1]
  cases j with
  |zero=>rw[yfX (show ¬(0=k+1) from λh=>by cases h)];split<;>rfl
  |succ j=>
   by_cases hk:k%2=0
   ·rw[ygX hk,T.get_n1,T.get_n1,T.get_put l];by_cases hj:j%2=0
    ·rw[ygX hj,ygX hj];by_cases e:j=k
     ·rw[ygX zo,ygX zo]
     ·rw[yfX zo,yfX zo]
    ·rw[yfX hj,yfX zo,yfX hj]
   ·rw[yfX hk,T.get_n1,T.get_n1,T.get_put r];by_cases hj:j%2=0
    ·rw[ygX hj,yfX zo,ygX hj]
    ·rw[yfX hj,yfX hj];by_cases e:j=k
     ·rw[ygX zo,ygX zo]
     ·rw[yfX zo,yfX zo]
end
theorem zaf {α β:Type} {x:R α} {f:α->R β} {b:β} (h:bd x f= .ok b):∃a,x= .ok a/\f a= .ok b:=by
 cases x with
 |ok a=>exact⟨a,rfl,h⟩
 |no e=>cases h
theorem zcf {α:Type} {x:Option α} {a:α} (h:ofO x= .ok a):x=some a:=by
 cases x with
 |some b=>cases h;rfl
 |none=>cases h
theorem zav {α:Type} {b:Bool} {x:R α} {a:α} (h:zbh b x= .ok a):b=true/\x= .ok a:=by
 cases b with
 |true=>exact⟨rfl,h⟩
 |false=>cases h
theorem zbc {α:Type}:∀(l:List α) (k:Nat),nth l k=l[k]?
 |[],_=>by simp[nth]
 |a::l,0=>by simp[nth]
 |a::l,k+1=>by simp[nth,zbc l k]
structure Mp where
 f:Nat->Option (Nat×Nat×Nat)
 z:Nat->Nat->Option Value
instance : CoeFun Mp λ_=>Nat->Option (Nat×Nat×Nat):=⟨Mp.f⟩
def Zle (z z':Nat->Nat->Option Value):Prop:=∀k i v,z k i=some v->z' k i=some v
structure Mp.le (m m':Mp):Prop where
 f:∀b x,m b=some x->m' b=some x
 z:Zle m.z m'.z
theorem Mp.le_refl (m:Mp):m.le m:=⟨λ_ _ h=>h,λ_ _ _ h=>h⟩
theorem Mp.le_trans {a b c:Mp} (h:a.le b) (h':b.le c):a.le c:=⟨λ_ _ e=>h'.f _ _ (h.f _ _ e),λ_ _ _ e=>h'.z _ _ _ (h.z _ _ _ e)⟩
mutual
def Rz (z:Nat->Nat->Option Value):AV->Value->Prop
 | .sc v,x=>x=v
 | .any,_=>True
 | .agg l,x=>∃l',Rzl z l l'/\x= .agg l'.toArray
 | .tup l,x=>∃l',Rzl z l l'/\x= .tuple l'.toArray
 | .lst sz n f,x=>∃A cap,x= .slice A n cap/\n<=cap/\(A=none∨sz=0->n=0/\cap=0)/\∀i,i<n->∃k o vs,A=some ⟨k,o,none⟩/\Rzl z (f i) vs/\vs.length=sz/\∀j v,vs[j]? =some v->z k (o+i*sz+j)=some v
 | .cp cs off,x=>∃k o vs,x= .pointer (some ⟨k,o+off,none⟩)/\Rzl z cs vs/\∀j v,vs[j]? =some v->z k (o+j)=some v
 | .ptr _ _,_=>False
 | .sl _ _ _ _,_=>False
 | .so _ _ _ _,_=>False
 | .fn f a b,x=>∃a' b',Rzl z a a'/\Rzl z b b'/\x= .func f a'.toArray b'.toArray
 | .ifc _ _,_=>False
def Rzl (z:Nat->Nat->Option Value):List AV->List Value->Prop
 |[],ys=>ys=[]
 |x::l,ys=>∃y ys',ys=y::ys'/\Rz z x y/\Rzl z l ys'
end
mutual
def R1 (m:Mp):AV->Value->Prop
 | .sc v,x=>x=v
 | .ptr b off,x=>∃k o c,m b=some (k,o,c)/\x= .pointer (some ⟨k,o+off,none⟩)
 | .sl b off len cap,x=>∃k o c,m b=some (k,o,c)/\x= .slice (some ⟨k,o+off,none⟩) len cap
 | .so b off len start,x=>∃k o c,m b=some (k,o,c)/\start+len<=c/\x= .slice (some ⟨k,o+off,none⟩) len (c-start)
 | .fn f a b,x=>∃a' b',Rl m a a'/\Rl m b b'/\x= .func f a'.toArray b'.toArray
 | .agg l,x=>∃l',Rl m l l'/\x= .agg l'.toArray
 | .tup l,x=>∃l',Rl m l l'/\x= .tuple l'.toArray
 | .ifc t v,x=>∃v',R1 m v v'/\x= .iface t v'
 | .any,_=>True
 | .lst sz n f,x=>Rz m.z (.lst sz n f) x
 | .cp cs off,x=>Rz m.z (.cp cs off) x
def Rl (m:Mp):List AV->List Value->Prop
 |[],ys=>ys=[]
 |x::l,ys=>∃y ys',ys=y::ys'/\R1 m x y/\Rl m l ys'
end
section
variable {m m' : Mp}
mutual
theorem Rz.mono {z z':Nat->Nat->Option Value} (h:Zle z z'):∀(v:AV) (x:Value),Rz z v x->Rz z' v x
 | .sc _,_,e=>e
 | .any,_,_=>trivial
 | .agg l,_,⟨l',hl,e⟩=>⟨l',Rzl.mono h l l' hl,e⟩
 | .tup l,_,⟨l',hl,e⟩=>⟨l',Rzl.mono h l l' hl,e⟩
 | .lst _ _ f,_,⟨A,cap,e,h1,h2,h3⟩=>⟨A,cap,e,h1,h2,λi hi=>let⟨k,o,vs,h4,h5,h6,h7⟩:=h3 i hi;⟨k,o,vs,h4,Rzl.mono h (f i) vs h5,h6,λj v hv=>h _ _ _ (h7 j v hv)⟩⟩
 | .cp cs _,_,⟨k,o,vs,e,h5,h7⟩=>⟨k,o,vs,e,Rzl.mono h cs vs h5,λj v hv=>h _ _ _ (h7 j v hv)⟩
 | .ptr _ _,_,h=>h.elim
 | .sl _ _ _ _,_,h=>h.elim
 | .so _ _ _ _,_,h=>h.elim
 | .fn _ a b,_,⟨a',b',ha,hb,e⟩=>⟨a',b',Rzl.mono h a a' ha,Rzl.mono h b b' hb,e⟩
 | .ifc _ _,_,h=>h.elim
theorem Rzl.mono {z z':Nat->Nat->Option Value} (h:Zle z z'):∀(l:List AV) (ys:List Value),Rzl z l ys->Rzl z' l ys
 |[],_,e=>e
 |x::l,_,⟨y,ys,e,h1,h2⟩=>⟨y,ys,e,Rz.mono h x y h1,Rzl.mono h l ys h2⟩
end
mutual
theorem Rz.r1 :∀{v:AV} {x:Value},Rz m.z v x->R1 m v x
 | .sc _,_,e=>e
 | .any,_,_=>trivial
 | .agg l,_,⟨l',hl,e⟩=>⟨l',Rzl.rl hl,e⟩
 | .tup l,_,⟨l',hl,e⟩=>⟨l',Rzl.rl hl,e⟩
 | .lst _ _ _,_,h=>h
 | .cp _ _,_,h=>h
 | .ptr _ _,_,h=>h.elim
 | .sl _ _ _ _,_,h=>h.elim
 | .so _ _ _ _,_,h=>h.elim
 | .fn _ _ _,_,⟨a',b',ha,hb,e⟩=>⟨a',b',Rzl.rl ha,Rzl.rl hb,e⟩
 | .ifc _ _,_,h=>h.elim
theorem Rzl.rl :∀{l:List AV} {ys:List Value},Rzl m.z l ys->Rl m l ys
 |[],_,e=>e
 |x::l,_,⟨y,ys,e,h1,h2⟩=>⟨y,ys,e,Rz.r1 h1,Rzl.rl h2⟩
end
mutual
theorem R1.mono (h:m.le m'):∀(v:AV) (x:Value),R1 m v x->R1 m' v x
 | .sc _,_,e=>e
 | .ptr _ _,_,⟨k,o,c,hm,e⟩=>⟨k,o,c,h.f _ _ hm,e⟩
 | .sl _ _ _ _,_,⟨k,o,c,hm,e⟩=>⟨k,o,c,h.f _ _ hm,e⟩
 | .so _ _ _ _,_,⟨k,o,c,hm,e⟩=>⟨k,o,c,h.f _ _ hm,e⟩
 | .fn _ a b,_,⟨a',b',ha,hb,e⟩=>⟨a',b',Rl.mono h a a' ha,Rl.mono h b b' hb,e⟩
 | .agg l,_,⟨l',hl,e⟩=>⟨l',Rl.mono h l l' hl,e⟩
 | .tup l,_,⟨l',hl,e⟩=>⟨l',Rl.mono h l l' hl,e⟩
 | .ifc _ v,_,⟨v',hv,e⟩=>⟨v',R1.mono h v v' hv,e⟩
 | .any,_,_=>trivial
 | .lst _ _ _,_,e=>Rz.mono h.z _ _ e
 | .cp _ _,_,e=>Rz.mono h.z _ _ e
theorem Rl.mono (h:m.le m'):∀(l:List AV) (ys:List Value),Rl m l ys->Rl m' l ys
 |[],_,e=>e
 |x::l,_,⟨y,ys,e,h1,h2⟩=>⟨y,ys,e,R1.mono h x y h1,Rl.mono h l ys h2⟩
end
theorem Rl.nil :Rl m [] []:=rfl
theorem Rl.length :∀{l:List AV} {ys:List Value},Rl m l ys->ys.length=l.length
 |[],_,e=>by cases e;rfl
 |_::_,_,⟨_,_,e,_,h⟩=>by subst e;simp[Rl.length h]
theorem Rl.append :∀{l l2:List AV} {ys ys2:List Value},Rl m l ys->Rl m l2 ys2->Rl m (l++l2) (ys++ys2)
 |[],_,_,_,e,h=>by cases e;exact h
 |_::_,_,_,_,⟨_,_,e,h1,h2⟩,h=>by subst e;exact⟨_,_,rfl,h1,Rl.append h2 h⟩
theorem Rl.drop :∀{l:List AV} {ys:List Value} (n:Nat),Rl m l ys->Rl m (l.drop n) (ys.drop n)
 |[],_,n,e=>by cases e;simp;rfl
 |_::_,_,0,h=>h
 |_::_,_,n+1,⟨_,_,e,_,h⟩=>by subst e;exact Rl.drop n h
theorem Rl.take :∀{l:List AV} {ys:List Value} (n:Nat),Rl m l ys->Rl m (l.take n) (ys.take n)
 |[],_,n,e=>by cases e;simp;rfl
 |_::_,_,0,h=>rfl
 |_::_,_,n+1,⟨_,_,e,h1,h⟩=>by subst e;exact⟨_,_,rfl,h1,Rl.take n h⟩
theorem Rl.get :∀{l:List AV} {ys:List Value} (k:Nat) (x:AV),Rl m l ys->l[k]? =some x->∃y,ys[k]? =some y/\R1 m x y
 |[],_,k,x,_,h=>by simp at h
 |_::_,_,0,x,⟨y,_,e,h1,_⟩,h=>by subst e;cases h;exact⟨y,rfl,h1⟩
 |_::_,_,k+1,x,⟨_,_,e,_,h2⟩,h=>by subst e;exact Rl.get k x h2 (by simpa using h)
theorem Rl.sc :∀(l:List Value),Rl m (l.map AV.sc) l
 |[]=>rfl
 |_::l=>⟨_,_,rfl,rfl,Rl.sc l⟩
theorem Rl.of_sc :∀{l ys:List Value},Rl m (l.map AV.sc) ys->ys=l
 |[],_,e=>e
 |_::_,_,⟨_,_,e,h1,h2⟩=>by subst e;rw[Rl.of_sc h2];cases h1;rfl
theorem zna :∀{l:List AV} {n:Nat} {r:List AV},zov l n= .ok r->r=l.take n/\n<=l.length
 |l,0,r,h=>by
  have:zov l 0= .ok []:=by cases l<;>rfl
  rw[this] at h;cases h;simp
 |[],n+1,_,h=>by cases h
 |a::l,n+1,r,h=>by
  obtain⟨q,hq,e⟩:=zaf h;cases e;obtain⟨rfl,h2⟩:=zna hq;exact⟨rfl,by simpa using h2⟩
theorem zja {l:List AV} {off n:Nat} {r:List AV} (h:takeN l off n= .ok r):r=(l.drop off).take n/\n<=l.length-off:=by
 have:=zna h;simpa using this
theorem zgV :∀{l:List AV} {k:Nat} {r:AV},zqD l k= .ok r->l[k]? =some r
 |[],_,_,h=>by cases h
 |a::_,0,_,h=>by cases h;rfl
 |_::l,k+1,r,h=>by simpa using zgV (l:=l) h
mutual
theorem zpz :∀{v:AV} {x y:Value},v.val= .ok x->R1 m v y->y=x
 | .sc _,_,_,h,e=>by cases h;exact e
 | .ptr _ _,_,_,h,_=>by cases h
 | .sl _ _ _ _,_,_,h,_=>by cases h
 | .so _ _ _ _,_,_,h,_=>by cases h
 | .fn _ _ _,_,_,h,_=>by cases h
 | .agg l,_,_,h,⟨l',hl,e⟩=>by
  obtain⟨q,hq,e2⟩:=zaf h;cases e2;rw[e,zl1 hq hl]
 | .tup l,_,_,h,⟨l',hl,e⟩=>by
  obtain⟨q,hq,e2⟩:=zaf h;cases e2;rw[e,zl1 hq hl]
 | .ifc _ v,_,_,h,⟨v',hv,e⟩=>by
  obtain⟨q,hq,e2⟩:=zaf h;cases e2;rw[e,zpz hq hv]
 | .any,_,_,h,_=>by cases h
 | .lst _ _ _,_,_,h,_=>by cases h
 | .cp _ _,_,_,h,_=>by cases h
theorem zl1 :∀{l:List AV} {xs ys:List Value},AV.val.vals l= .ok xs->Rl m l ys->ys=xs
 |[],_,_,h,e=>by cases h;exact e
 |x::l,_,_,h,⟨y,ys,e,h1,h2⟩=>by
  obtain⟨q,hq,h⟩:=zaf h;obtain⟨qs,hqs,h⟩:=zaf h;cases h;rw[e,zpz hq h1,zl1 hqs h2]
end
theorem zmU {v:AV} {y:Value} (hn:zeH v=true) (h:R1 m v y):Rl m v.cells y.cells.toList:=by
 cases v with
 |sc v=>cases h;exact Rl.sc _
 |agg l=>obtain⟨l',hl,e⟩:=h;subst e;exact hl
 |ptr _ _=>obtain⟨k,o,c,hm,rfl⟩:=h;exact⟨_,_,rfl,⟨k,o,c,hm,rfl⟩,rfl⟩
 |sl _ _ _ _=>obtain⟨k,o,c,hm,rfl⟩:=h;exact⟨_,_,rfl,⟨k,o,c,hm,rfl⟩,rfl⟩
 |so _ _ _ _=>obtain⟨k,o,c,hm,hc,rfl⟩:=h;exact⟨_,_,rfl,⟨k,o,c,hm,hc,rfl⟩,rfl⟩
 |fn _ _ _=>obtain⟨a,b,ha,hb,rfl⟩:=h;exact⟨_,_,rfl,⟨a,b,ha,hb,rfl⟩,rfl⟩
 |tup _=>obtain⟨a,ha,rfl⟩:=h;exact⟨_,_,rfl,⟨a,ha,rfl⟩,rfl⟩
 |ifc _ _=>obtain⟨a,ha,rfl⟩:=h;exact⟨_,_,rfl,⟨a,ha,rfl⟩,rfl⟩
 |any=>cases hn
 |lst _ _ _=>obtain⟨A,cap,rfl,h'⟩:=h;exact⟨_,_,rfl,⟨A,cap,rfl,h'⟩,rfl⟩
 |cp _ _=>obtain⟨k,o,vs,rfl,h'⟩:=h;exact⟨_,_,rfl,⟨k,o,vs,rfl,h'⟩,rfl⟩
theorem zqE {v:AV} {y:Value} (h:zgW v=true) (hr:R1 m v y):(∀c,y≠ .agg c)/\(∀c,y≠ .tuple c):=by
 cases v with
 |sc v=>
  have e:y=v:=hr;subst e
  cases y<;>first|(exact Bool.noConfusion h)|(constructor<;>intro c e<;>cases e;done)
 |agg l=>exact absurd h (by simp[zgW])
 |tup l=>exact absurd h (by simp[zgW])
 |ptr _ _=>obtain⟨k,o,c,hm,rfl⟩:=hr;exact⟨by simp,by simp⟩
 |sl _ _ _ _=>obtain⟨k,o,c,hm,rfl⟩:=hr;exact⟨by simp,by simp⟩
 |so _ _ _ _=>obtain⟨k,o,c,hm,hc,rfl⟩:=hr;exact⟨by simp,by simp⟩
 |fn _ _ _=>obtain⟨a,b,ha,hb,rfl⟩:=hr;exact⟨by simp,by simp⟩
 |ifc _ _=>obtain⟨a,ha,rfl⟩:=hr;exact⟨by simp,by simp⟩
 |any=>cases h
 |lst _ _ _=>obtain⟨A,cap,rfl,h'⟩:=hr;exact⟨by simp,by simp⟩
 |cp _ _=>obtain⟨k,o,vs,rfl,h'⟩:=hr;exact⟨by simp,by simp⟩
theorem zk0 :∀{l xs r:List AV},zfk l xs= .ok r->r=xs++l.drop xs.length/\xs.length<=l.length/\∀x∈xs,zgW x=true
 |l,[],_,h=>by
  have:zfk l []= .ok l:=by cases l<;>rfl
  rw[this] at h;cases h;simp
 |[],x::xs,_,h=>by cases h
 |a::l,x::xs,r,h=>by
  unfold zfk at h;split at h
  ·rename_i h1;obtain⟨q,hq,e⟩:=zaf h;cases e;obtain⟨rfl,h2,h3⟩:=zk0 hq;refine⟨rfl,by simpa using h2,λy hy=> ?_⟩
   rcases yAX.1 hy with rfl|hy
   ·exact h1
   ·exact h3 y hy
  ·cases h
theorem zjv :∀{l:List AV} {off:Nat} {xs r:List AV},putAt l off xs= .ok r->r=l.take off++xs++l.drop (off+xs.length)/\(off+xs.length<=l.length)/\∀x∈xs,zgW x=true
 |l,0,xs,r,h=>by
  have h':zfk l xs= .ok r:=by cases l<;>exact h
  obtain⟨rfl,h2,h3⟩:=zk0 h';simp[h2];exact h3
 |[],off+1,xs,r,h=>by cases h
 |a::l,off+1,xs,r,h=>by
  obtain⟨q,hq,e⟩:=zaf h;cases e;obtain⟨rfl,h2,h3⟩:=zjv hq;refine⟨by rw[show off+1+xs.length=(off+xs.length)+1 by omega];simp,by simp;omega,h3⟩
end
end Go.Ex
namespace Go.Ex
open Go
def zya (fr:Nat×Nat) (n:Nat):Prop:=∀j,j<n->¬(fr.1<=j/\j<fr.2)
def blk (m:Mp) (b:Nat):Option Nat:=(m b).map (·.1)
def AO.R (m:Mp) (w:World) (b:Nat):AO->Prop
 | .row c e s=>∃k o cap cur fr pre vs post,m b=some (k,o,cap)/\w.heap[k]? =some (.cells cur e fr)/\zya fr cur.size/\cur.toList=pre++(vs++post)/\pre.length=o/\Rl m c vs/\(s≠0->cap*s<=vs.length+post.length)
 | .iter bs pos=>∃k,m b=some (k,0,0)/\w.heap[k]? =some (.stringIter bs pos)
abbrev AH :=Nat->Option AO
def zwn (k:Nat):Option (Array Value):=if k=0 then some (Lib.pow10Tab.map λz=>Value.int .u64 z).toArray else none
def ztO (w:World):Prop:=∀k x,zwn k=some x->∃e fr,w.heap[k]? =some (.cells x e fr)
structure Ok (m:Mp) (F:AH) (w:World):Prop where
 has:∀b o,F b=some o->o.R m w b
 apart:∀b b' o o',F b=some o->F b'=some o'->b≠b'->blk m b≠blk m b'
 fz:∀k i v,m.z k i=some v->(∃cur e fr,w.heap[k]? =some (.cells cur e fr)/\cur[i]? =some v)/\∀b o,F b=some o->blk m b≠some k
 tb:∀k x,zwn k=some x->(∃e fr,w.heap[k]? =some (.cells x e fr))/\∀b o,F b=some o->blk m b≠some k
structure Fr (m:Mp) (F:AH) (w w':World):Prop where
 os:w'.os=w.os
 tape:w'.tape=w.tape
 output:w'.output=w.output
 size:w.heap.size<=w'.heap.size
 block:∀k,k<w.heap.size->(∀b o,F b=some o->blk m b≠some k)->w'.heap[k]? =w.heap[k]?
def zx9 (m m':Mp) (F F':AH) (w:World):Prop:=∀b o,F' b=some o->(∃b0 o0,F b0=some o0/\blk m' b=blk m b0)∨∃k,blk m' b=some k/\w.heap.size<=k
def MExt (m m':Mp) (n n':Nat):Prop:=∀b,b<n∨n'<=b->m' b=m b
def Fresh (m:Mp) (n n':Nat):Prop:=∀b,n<=b->b<n'->m b=none
def zyI (m m':Mp) (F:AH) (w:World):Prop:=∀k i v,m'.z k i=some v->m.z k i=some v∨(∃b0 o0,F b0=some o0/\blk m b0=some k)∨w.heap.size<=k
structure Goes (F F':AH) (n n':Nat) (m m':Mp) (w w':World):Prop where
 le:n<=n'
 ext:MExt m m' n n'
 ok:Ok m' F' w'
 fr:Fr m F w w'
 new:zx9 m m' F F' w
 zle:Zle m.z m'.z
 znew:zyI m m' F w
section
variable {m m' m'' : Mp} {F F' F'' : AH} {n n' n'' : Nat} {w w' w'' : World}
theorem AO.R_blk {b:Nat} {o:AO} (h:o.R m w b):∃k,blk m b=some k/\k<w.heap.size:=by
 cases o with
 |row c e s=>
  obtain⟨k,o,cap,cur,fr,pre,vs,post,hm,hw,_⟩:=h;exact⟨k,by simp[blk,hm],(yHY.1 hw).1⟩
 |iter bs pos=>
  obtain⟨k,hm,hw⟩:=h;exact⟨k,by simp[blk,hm],(yHY.1 hw).1⟩
theorem AO.R_keep {b:Nat} {o:AO} (h:o.R m w b) (hm:m.le m') (hk:∀k,blk m b=some k->w'.heap[k]? =w.heap[k]?):o.R m' w' b:=by
 cases o with
 |row c e s=>
  obtain⟨k,o,cap,cur,fr,pre,vs,post,h1,h2,h3,h4,h5,h6,h7⟩:=h;exact⟨k,o,cap,cur,fr,pre,vs,post,hm.f _ _ h1,(hk k (by simp[blk,h1])).trans h2,h3,h4,h5,Rl.mono hm _ _ h6,h7⟩
 |iter bs pos=>
  obtain⟨k,h1,h2⟩:=h;exact⟨k,hm.f _ _ h1,(hk k (by simp[blk,h1])).trans h2⟩
theorem MExt.le (h:MExt m m' n n') (hz:Zle m.z m'.z) (hf:Fresh m n n'):m.le m':=by
 refine⟨λb x hb=> ?_,hz⟩;by_cases h1:b<n
 ·rw[h b (.inl h1)];exact hb
 ·by_cases h2:n'<=b
  ·rw[h b (.inr h2)];exact hb
  ·rw[hf b zo zo] at hb;cases hb
theorem zrY (h:m.le m') {b k:Nat} (hb:blk m b=some k):blk m' b=some k:=by
 unfold blk at*
 cases h1:m b with
 |none=>rw[h1] at hb;cases hb
 |some x=>rw[h1] at hb;rw[h.f _ _ h1];exact hb
theorem Fr.refl (m:Mp) (F:AH) (w:World):Fr m F w w:=⟨rfl,rfl,rfl,yhX _,λ_ _ _=>rfl⟩
theorem Goes.refl (h:Ok m F w):Goes F F n n m m w w:=⟨yhX _,λ_ _=>rfl,h,Fr.refl _ _ _,λb o hb=> .inl ⟨b,o,hb,rfl⟩,λ_ _ _ h=>h,λ_ _ _ h=> .inl h⟩
theorem Goes.mle (h:Goes F F' n n' m m' w w') (hf:Fresh m n n'):m.le m':=h.ext.le h.zle hf
theorem Fresh.left (hf:Fresh m n n'') (h:n'<=n''):Fresh m n n':=λb h1 h2=>hf b h1 zo
theorem Fresh.right (hf:Fresh m n n'') (h:Goes F F' n n' m m' w w'):Fresh m' n' n'':=λb h1 h2=>by
 rw[h.ext b (.inr h1)];exact hf b (yBX h.le h1) h2
theorem Goes.trans (h:Goes F F' n n' m m' w w') (h':Goes F' F'' n' n'' m' m'' w' w''):Goes F F'' n n'' m m'' w w'':=by
 refine⟨yBX h.le h'.le,λb hb=> ?_,h'.ok,⟨h'.fr.os.trans h.fr.os,h'.fr.tape.trans h.fr.tape,h'.fr.output.trans h.fr.output,yBX h.fr.size h'.fr.size,λk hk hn=> ?_⟩,λb o hb=> ?_,λk i v hv=>h'.zle k i v (h.zle k i v hv),λk i v hv=> ?_⟩
 ·have h1:=h.le;have h2:=h'.le;rw[h'.ext b zo,h.ext b zo]
 ·rw[h'.fr.block k (ywY hk h.fr.size) λb o hb e=> ?_,h.fr.block k hk hn]
  rcases h.new b o hb with⟨b0,o0,h0,e0⟩|⟨k0,e0,hk0⟩
  ·exact hn b0 o0 h0 (e0.symm.trans e)
  ·rw[e0] at e;cases e;omega
 ·rcases h'.new b o hb with⟨b0,o0,h0,e0⟩|⟨k0,e0,hk0⟩
  ·rcases h.new b0 o0 h0 with⟨b1,o1,h1,e1⟩|⟨k1,e1,hk1⟩
   ·exact .inl ⟨b1,o1,h1,e0.trans e1⟩
   ·exact .inr ⟨k1,e0.trans e1,hk1⟩
  ·exact .inr ⟨k0,e0,yBX h.fr.size hk0⟩
 ·rcases h'.znew k i v hv with h1|⟨b0,o0,h0,e0⟩|h1
  ·exact h.znew k i v h1
  ·rcases h.new b0 o0 h0 with⟨b1,o1,h1,e1⟩|⟨k1,e1,hk1⟩
   ·exact .inr (.inl ⟨b1,o1,h1,e1.symm.trans e0⟩)
   ·rw[e1] at e0;cases e0;exact .inr (.inr hk1)
  ·exact .inr (.inr (yBX h.fr.size h1))
theorem Ok.tbs (h:Ok m F w) (hs:∀k,k<w.heap.size->(∀b o,F b=some o->blk m b≠some k)->w'.heap[k]? =w.heap[k]?) (hn:zx9 m m' F F' w):∀k x,zwn k=some x->(∃e fr,w'.heap[k]? =some (.cells x e fr))/\∀b o,F' b=some o->blk m' b≠some k:=λk x hk=>by
 obtain⟨⟨e0,fr0,h1⟩,h2⟩:=h.tb k x hk;have hlt:k<w.heap.size:=(yHY.1 h1).1;refine⟨⟨e0,fr0,(hs k hlt h2).trans h1⟩,λb o hb e=> ?_⟩
 rcases hn b o hb with⟨b0,o0,h0,e0⟩|⟨k0,e0,hk0⟩
 ·exact h2 b0 o0 h0 (e0.symm.trans e)
 ·rw[e0] at e;cases e;omega
theorem Ok.tbsub (h:Ok m F w) (hs:∀b o,F' b=some o->∃b0 o0,F b0=some o0/\blk m' b=blk m b0):∀k x,zwn k=some x->(∃e fr,w.heap[k]? =some (.cells x e fr))/\∀b o,F' b=some o->blk m' b≠some k:=
 h.tbs (λ_ _ _=>rfl) λb o hb=> .inl (hs b o hb)
theorem Ok.drew (h:Ok m F w):Ok m F w.drew:=⟨λb o hb=>AO.R_keep (h.has b o hb) (Mp.le_refl _) λ_ _=>rfl,h.apart,h.fz,h.tb⟩
theorem Goes.drew (h:Ok m F w):Goes F F n n m m w w.drew:=⟨yhX _,λ_ _=>rfl,h.drew,⟨rfl,rfl,rfl,yhX _,λ_ _ _=>rfl⟩,λb o hb=> .inl ⟨b,o,hb,rfl⟩,λ_ _ _ h=>h,λ_ _ _ h=> .inl h⟩
theorem zg0 {z y kz:Nat} (h:Ok m F w) (hn:n<=n') (he:MExt m m' n n') (hze:m'.z=m.z) (hf:Fresh m n n')
  (hold:∀b o,F' b=some o->b≠z->F b=some o/\b≠y) (hz:∀o,F' z=some o->o.R m' w' z) (hb:blk m' z=some kz)
  (hk:(∃o,F y=some o/\blk m y=some kz)∨w.heap.size<=kz)
  (h1:w'.os=w.os) (h2:w'.tape=w.tape) (h3:w'.output=w.output) (h4:w.heap.size<=w'.heap.size) (h5:∀k,k<w.heap.size->k≠kz->w'.heap[k]? =w.heap[k]?):Goes F F' n n' m m' w w':=by
 have hle:=he.le (λk i v h=>by rw[hze];exact h) hf
 have hne:∀b o,F' b=some o->b≠z->blk m' b≠some kz/\blk m' b=blk m b/\F b=some o/\o.R m w b:=by
  intro b o hb' hbz;obtain⟨hF,hby⟩:=hold b o hb' hbz;obtain⟨k,hk0,hlt⟩:=AO.R_blk (h.has b o hF);have e:=zrY hle hk0;refine⟨?_,by rw[e,hk0],hF,h.has b o hF⟩;rw[e];intro ek;cases ek
  rcases hk with⟨oy,hy,hyk⟩|hge
  ·exact h.apart b y o oy hF hy hby (hk0.trans hyk.symm)
  ·omega
 refine⟨hn,he,⟨λb o hb'=> ?_,λb b' o o' hb1 hb2 hbb=> ?_,λk i v hv=> ?_,h.tbs (λk hk1 hk2=>h5 k hk1 λe=> ?_) λb o hb'=> ?_⟩,⟨h1,h2,h3,h4,λk hk1 hk2=>h5 k hk1 λe=> ?_⟩,λb o hb'=> ?_,hle.z,λk i v hv=> .inl (by rw[←hze];exact hv)⟩
 ·by_cases hbz:b=z
  ·subst hbz;exact hz o hb'
  ·obtain⟨q1,q2,q3,q4⟩:=hne b o hb' hbz;refine AO.R_keep q4 hle λk hk0=> ?_
   have hlt:k<w.heap.size:=by
    obtain⟨k',e',hl⟩:=AO.R_blk q4;rw[hk0] at e';cases e';exact hl
   exact h5 k hlt λe=>q1 (by rw[q2,hk0,e])
 ·by_cases e1:b=z
  ·subst e1;rw[hb];exact Ne.symm (hne b' o' hb2 (Ne.symm hbb)).1
  ·by_cases e2:b'=z
   ·subst e2;rw[hb];exact(hne b o hb1 e1).1
   ·obtain⟨_,q2,q3,_⟩:=hne b o hb1 e1;obtain⟨_,r2,r3,_⟩:=hne b' o' hb2 e2;rw[q2,r2];exact h.apart b b' o o' q3 r3 hbb
 ·rw[hze] at hv;obtain⟨⟨cur,e,fr,hw,hi⟩,hn⟩:=h.fz k i v hv;have hlt:k<w.heap.size:=(yHY.1 hw).1
  have hne':k≠kz:=λe=>by
   subst e
   rcases hk with⟨oy,hy,hyk⟩|hge
   ·exact hn y oy hy hyk
   ·omega
  refine⟨⟨cur,e,fr,(h5 k hlt hne').trans hw,hi⟩,λb o hb'=> ?_⟩;by_cases hbz:b=z
  ·subst hbz;rw[hb];intro e;cases e;exact hne' rfl
  ·obtain⟨_,q2,q3,_⟩:=hne b o hb' hbz;rw[q2];exact hn b o q3
 ·rcases hk with⟨oy,hy,hyk⟩|hge
  ·exact hk2 y oy hy (by rw[hyk,e])
  ·omega
 ·by_cases hbz:b=z
  ·subst hbz
   rcases hk with⟨oy,hy,hyk⟩|hge
   ·exact .inl ⟨y,oy,hy,by rw[hb,hyk]⟩
   ·exact .inr ⟨kz,hb,hge⟩
  ·obtain⟨_,q2,q3,_⟩:=hne b o hb' hbz;exact .inl ⟨b,o,q3,q2⟩
 ·rcases hk with⟨oy,hy,hyk⟩|hge
  ·exact hk2 y oy hy (by rw[hyk,e])
  ·omega
 ·by_cases hbz:b=z
  ·subst hbz
   rcases hk with⟨oy,hy,hyk⟩|hge
   ·exact .inl ⟨y,oy,hy,by rw[hb,hyk]⟩
   ·exact .inr ⟨kz,hb,hge⟩
  ·obtain⟨_,q2,q3,_⟩:=hne b o hb' hbz;exact .inl ⟨b,o,q3,q2⟩
end
theorem zb6 (P:Program) (g o:Nat) (t:TypeId) (fr:Nat×Nat):∀(vs:List Value) (i:Nat) (cur:Array Value) (w:World),zya fr cur.size->w.heap[g]? =some (.cells cur t fr)->o+i+vs.length<=cur.size->(∀v∈vs,v.oneCell'=true)->
  (storeCells ⟨g,o,none⟩ vs i).run P w= .ok () (w.setRow g (cur.toList.take (o+i)++vs++cur.toList.drop (o+i+vs.length)).toArray)
 |[],i,cur,w,_,hg,_,_=>by
  simp only[storeCells,yKX,ySX,yvZ,ygZ,Array.toArray_toList];rw[setRow_self w g cur t fr hg];rfl
 |v::rest,i,cur,w,hfr,hg,hl,h1=>by
  have hi:o+i<cur.size:=by simp at hl;omega
  have hadd:(⟨g,o,none⟩:Addr).add i=⟨g,o+i,none⟩:=by unfold Addr.add;split<;>simp_all
  have hcell:w.cell? ⟨g,o+i,none⟩=some cur[o+i]:=by simp[World.cell?,hg,hi]
  have hfro:w.frozen? ⟨g,o+i,none⟩=false:=by
   have:=hfr (o+i) hi;obtain⟨lo,hi'⟩:=fr;simp only[World.frozen?,hg];simp only at this;rw[yLZ,yPY,yPY];omega
  have hst:(store ((⟨g,o,none⟩:Addr).add i) v).run P w= .ok () (w.setRow g (cur.setIfInBounds (o+i) v)):=by
   rw[hadd,run_store P w _ v _ (h1 v (by simp)),hcell];simp[hfro,setCell_eq_setRow w g (o+i) cur t fr v hg]
  have ih:=zb6 P g o t fr rest (i+1) (cur.setIfInBounds (o+i) v) (w.setRow g (cur.setIfInBounds (o+i) v)) (by simpa using hfr) (setRow_heap w g cur _ t _ hg) (by simp at hl⊢;omega) (λx hx=>h1 x (by simp[hx]));simp only[storeCells,y2X,hst,yWX,ih,setRow_setRow]
  congr 3
  have e:=list_seg_step cur.toList (o+i) v rest (by simp at hl⊢;omega);simpa[Array.toList_setIfInBounds,yrY] using e
end Go.Ex
namespace Go.Ex
open Go
structure TyR (P:Program) (t:TypeId) (i:Ty):Prop where
 u:∀w,(underlying t).run P w= .ok i.d w
 sz:∀w,(Go.sizeOf t).run P w= .ok i.size w
 agg:∀w,(isAgg t).run P w= .ok (zuD i.d) w
 zero:∀z,i.zero=some z->∀w,(zeroValue t).run P w= .ok z w
 info:∃inf,P.info? t=some inf/\inf.size=i.size/\inf.bytes=i.bytes/\inf.zero=i.zero
 und:P.underlying t=some i.d
theorem zaX {P:Program} {t:TypeId} {i:Ty} (h:ty P t= .ok i):TyR P t i:=by
 unfold ty at h;split at h
 ·rename_i d inf hd hi;cases h
  have hu:∀w,(underlying t).run P w= .ok d w:=λw=>by simp[underlying,program,Sem.run,hd]
  have hti:∀w,(typeInfo t).run P w= .ok inf w:=λw=>by simp[typeInfo,program,Sem.run,hi]
  refine⟨hu,λw=> ?_,λw=> ?_,λz hz w=> ?_,⟨inf,hi,rfl,rfl,rfl⟩,hd⟩
  ·simp[Go.sizeOf,hti]
  ·unfold isAgg;rw[y2X,hu];simp only[yWX];cases d<;>rfl
  ·have hz':inf.zero=some z:=hz;simp[zeroValue,hti,hz']
 ·cases h
section
variable {P : Program} {m m' : Mp} {s s' : St} {w w' : World}
theorem zfe {b:Nat} {r:List AV×TypeId×Nat} (h:rowAt s b= .ok r):s.h.get b=some (.row r.1 r.2.1 r.2.2):=by
 obtain⟨o,ho,h⟩:=zaf h;have ho:=zcf ho
 cases o with
 |row c e z=>cases h;exact ho
 |iter bs pos=>cases h
theorem zdV {b:Nat} {r:List AV×TypeId×Nat} (h:rowAt s b= .ok r) (hok:Ok m s.h.get w):∃k o cap cur fr pre vs post,m b=some (k,o,cap)/\w.heap[k]? =some (.cells cur r.2.1 fr)/\zya fr cur.size/\cur.toList=pre++(vs++post)/\pre.length=o/\Rl m r.1 vs/\(r.2.2≠0->cap*r.2.2<=vs.length+post.length):=
 hok.has b _ (zfe h)
theorem zu2 (pre vs post:List Value) (j:Nat) (hj:j<vs.length):(pre++(vs++post))[pre.length+j]? =vs[j]? :=by
 rw[yuX zo,yLX,yIX hj]
theorem cell_of {k:Nat} {cur:Array Value} {e:TypeId} {fr:Nat×Nat} {pre vs post:List Value} (hw:w.heap[k]? =some (.cells cur e fr)) (hc:cur.toList=pre++(vs++post)) {j:Nat} {v:Value} (hv:vs[j]? =some v):w.cell? ⟨k,pre.length+j,none⟩=some v:=by
 have hj:=(y7X.1 hv).1;have:=zu2 pre vs post j hj;rw[←hc,hv] at this;simp[World.cell?,hw];simpa using this
theorem zaT (b o j:Nat):(⟨b,o,none⟩:Addr).add j=⟨b,o+j,none⟩:=by
 unfold Addr.add;split<;>simp_all
theorem zhj {k o n:Nat} {xs:List Value} (hn:xs.length=n) (hc:∀j v,xs[j]? =some v->w.cell? ⟨k,o+j,none⟩=some v):(loadCells ⟨k,o,none⟩ n).run P w= .ok xs.toArray w:=by
 subst hn;exact run_loadCells_list (P:=P) w ⟨k,o,none⟩ xs (λj v hv=>by rw[zaT];exact hc j v hv)
theorem zoD {a:Addr} {v:Value} (hc:w.cell? a=some v):(load a).run P w= .ok v w:=by
 simp[load,Sem.run,hc]
theorem zes {b off n:Nat} {l:List AV} (h:zeF s b off n= .ok l) (hok:Ok m s.h.get w):∃k o cap xs,m b=some (k,o,cap)/\Rl m l xs/\xs.length=n/\l.length=n/\(∀j v,xs[j]? =some v->w.cell? ⟨k,o+off+j,none⟩=some v):=by
 obtain⟨r,hr,h⟩:=zaf h;obtain⟨k,o,cap,cur,fr,pre,vs,post,h1,h2,h3,h4,h5,h6,h7⟩:=zdV hr hok;obtain⟨rfl,hle⟩:=zja h;have hl:=h6.length;subst h5;refine⟨k,pre.length,cap,(vs.drop off).take n,h1,(h6.drop off).take n,by simp;omega,by simp;omega,λj v hv=> ?_⟩;rw[yNX] at hv;split at hv
 ·rw[y8X] at hv;rw[yrY];exact cell_of h2 h4 hv
 ·cases hv
theorem zqX {b off n:Nat} {l:List AV} (h:zeF s b off n= .ok l) (hok:Ok m s.h.get w):∃k o cap xs,m b=some (k,o,cap)/\Rl m l xs/\xs.length=n/\(loadCells ⟨k,o+off,none⟩ n).run P w= .ok xs.toArray w:=by
 obtain⟨k,o,cap,xs,h1,h2,h3,_,h4⟩:=zes h hok;exact⟨k,o,cap,xs,h1,h2,h3,zhj h3 h4⟩
theorem zgU {t:TypeId} {i:Ty} {cs:List AV} {off:Nat} {r:AV} (ht:TyR P t i) (h:zeE i cs off= .ok r) {xs:List Value} (hx:Rl m cs xs):∃y,(part t xs.toArray off).run P w= .ok y w/\R1 m r y:=by
 unfold zeE at h;unfold part;rw[y2X,ht.agg];simp only[yWX]
 cases hd:zuD i.d with
 |true=>
  rw[hd] at h;obtain⟨l,hl,h⟩:=zaf h;cases h;obtain⟨rfl,hle⟩:=zja hl;have hlen:=hx.length;refine⟨.agg ((xs.drop off).take i.size).toArray,?_,⟨_,(hx.drop off).take _,rfl⟩⟩;simp only[if_true,y2X,ht.sz,yWX,y6Y]
  congr 2
  apply ynY.1;simp[yQZ,ypZ]
 |false=>
  rw[hd] at h;obtain⟨y,hy,hr⟩:=Rl.get off r hx (zgV h);refine⟨y,?_,hr⟩;simp[hy]
theorem znE {t:TypeId} {i:Ty} {cs:List AV} {off k o:Nat} {vs:List Value} {r:AV} (ht:TyR P t i) (h6:Rl m cs vs) (hc:∀j v,vs[j]? =some v->w.cell? ⟨k,o+j,none⟩=some v) (h:zeE i cs off= .ok r):∃y,(loadVar t ⟨k,o+off,none⟩).run P w= .ok y w/\R1 m r y:=by
 unfold zeE at h
 have hv:∀a,(loadVar t a).run P w=(if zuD i.d=true then(do let n ←Go.sizeOf t;let l ←loadCells a n;pure (.agg l)) else load a:Sem Value).run P w:=λa=>by
  unfold loadVar;rw[y2X,ht.agg];rfl
 cases hd:zuD i.d with
 |true=>
  rw[hd] at h;obtain⟨l,hl,h⟩:=zaf h;cases h;obtain⟨rfl,hle⟩:=zja hl;have hlen:=h6.length
  have hrun:(loadCells ⟨k,o+off,none⟩ i.size).run P w= .ok ((vs.drop off).take i.size).toArray w:=zhj (by simp;omega) λj v hv=>by
   rw[yNX] at hv;split at hv
   ·rw[y8X] at hv;rw[yrY];exact hc _ _ hv
   ·cases hv
  refine⟨.agg ((vs.drop off).take i.size).toArray,?_,⟨_,(h6.drop off).take _,rfl⟩⟩;rw[hv,hd];simp only[if_true,y2X,ht.sz,yWX,hrun,y6Y]
 |false=>
  rw[hd] at h;obtain⟨y,hy,hr⟩:=Rl.get off r h6 (zgV h);exact⟨y,by rw[hv,hd];exact zoD (hc _ _ hy),hr⟩
theorem znO {t:TypeId} {b off:Nat} {r:AV} (h:zcw P s t b off= .ok r) (hok:Ok m s.h.get w):∃k o cap y,m b=some (k,o,cap)/\(loadVar t ⟨k,o+off,none⟩).run P w= .ok y w/\R1 m r y:=by
 obtain⟨i,hi,h⟩:=zaf h;obtain⟨c,hc,h⟩:=zaf h;have ht:=zaX hi;obtain⟨k,o,cap,cur,fr,pre,vs,post,h1,h2,h3,h4,h5,h6,h7⟩:=zdV hc hok;subst h5;obtain⟨y,h8,h9⟩:=znE ht h6 (λj v hv=>cell_of h2 h4 hv) h;exact⟨k,pre.length,cap,y,h1,h8,h9⟩
theorem Ok.cell {F:AH} (hok:Ok m F w) {k i:Nat} {v:Value} (h:m.z k i=some v):w.cell? ⟨k,i,none⟩=some v:=by
 obtain⟨⟨cur,e,fr,h1,h2⟩,_⟩:=hok.fz k i v h;simp[World.cell?,h1,h2]
def upd (m:Mp) (n:Nat) (x:Nat×Nat×Nat):Mp:=⟨λb=>if b=n then some x else m b,m.z⟩
theorem zbb (m:Mp) (n:Nat) (x:Nat×Nat×Nat):upd m n x n=some x:=ygX rfl
theorem zl2 (m:Mp) (n:Nat) (x:Nat×Nat×Nat):MExt m (upd m n x) n (n+1):=λb hb=>yfX zo
theorem zpC {n:Nat} {x:Nat×Nat×Nat} (hf:Fresh m n (n+1)):m.le (upd m n x):=(zl2 m n x).le (λ_ _ _ h=>h) hf
theorem heap_alloc_old (w:World) (o:Obj) (k:Nat) (h:k<w.heap.size):(w.alloc o).heap[k]? =w.heap[k]? :=by
 show(w.heap.push o)[k]? =_;rw[Array.getElem?_push,yfX zo]
theorem zj3 (hok:Ok m s.h.get w) (hf:Fresh m s.n (s.n+1)) (off cap:Nat) (ao:AO) (obj:Obj) (hR:ao.R (upd m s.n (w.heap.size,off,cap)) (w.alloc obj) s.n):
  Goes s.h.get (s.new ao).h.get s.n (s.new ao).n m (upd m s.n (w.heap.size,off,cap)) w (w.alloc obj):=by
 refine zg0 (z:=s.n) (y:=s.n) (kz:=w.heap.size) hok (Nat.le_succ _) (zl2 _ _ _) rfl hf (λb o hb hne=> ?_) (λo hb=> ?_) (by simp[blk,zbb]) (.inr (yhX _)) rfl rfl rfl (by simp) (λk hk _=>heap_alloc_old _ _ _ hk)
 ·have:(s.h.put s.n (some ao)).get b=some o:=hb;rw[T.get_put,yfX hne] at this;exact⟨this,hne⟩
 ·have:(s.h.put s.n (some ao)).get s.n=some o:=hb;rw[T.get_put,ygX rfl] at this;cases this;exact hR
theorem zew (hok:Ok m s.h.get w) (hf:Fresh m s.n (s.n+1)) (cap z:Nat) (e:TypeId) {cs:List AV} {vs:List Value} (hR:Rl m cs vs) (post:List Value) (hz:z≠0->cap*z<=vs.length+post.length):
  Goes s.h.get (s.new (.row cs e z)).h.get s.n (s.new (.row cs e z)).n m (upd m s.n (w.heap.size,0,cap)) w (w.alloc (.cells (vs++post).toArray e)):=
 zj3 hok hf 0 cap _ _ ⟨w.heap.size,0,cap,(vs++post).toArray,(0,0),[],vs,post,zbb _ _ _,heap_alloc_new w _,λj _ h=>by simp at h,by simp,rfl,Rl.mono (zpC hf) _ _ hR,hz⟩
theorem ze5 {b off:Nat} {xs:List AV} (h:zcH s b off xs= .ok s') (hok:Ok m s.h.get w) {vs:List Value} (hx:Rl m xs vs):∃k o cap w',m b=some (k,o,cap)/\(storeCells ⟨k,o+off,none⟩ vs).run P w= .ok () w'/\Goes s.h.get s'.h.get s.n s'.n m m w w':=by
 obtain⟨r,hr,h⟩:=zaf h;obtain⟨c,hc,h⟩:=zaf h;cases h;obtain⟨k,o,cap,cur,fr,pre,us,post,h1,h2,h3,h4,h5,h6,h7⟩:=zdV hr hok;obtain⟨rfl,hle,hone⟩:=zjv hc;have hl6:=h6.length;have hlx:=hx.length;subst h5
 have hone':∀v∈vs,v.oneCell'=true:=by
  intro v hv;obtain⟨j,hj,e⟩:=List.mem_iff_getElem.1 hv;have hjx:j<xs.length:=zo;obtain⟨y,hy,hR⟩:=Rl.get j xs[j] hx (ysX hjx)
  have:y=v:=by
   rw[ysX hj] at hy;cases hy;exact e
  subst this;obtain⟨q1,q2⟩:=zqE (hone _ (List.getElem_mem hjx)) hR
  cases y<;>first|rfl|exact absurd rfl (q1 _)|exact absurd rfl (q2 _)
 have hsz:cur.size=pre.length+(us.length+post.length):=by
  have:=yqX List.length h4;simpa using this
 have hrun:=zb6 P k (pre.length+off) r.2.1 fr vs 0 cur w h3 h2 zo hone';simp only[yvZ] at hrun
 have hcur:cur.toList.take (pre.length+off)++vs++cur.toList.drop (pre.length+off+vs.length)=pre++((us.take off++vs++us.drop (off+vs.length))++post):=by
  have e1:cur.toList.take (pre.length+off)=pre++us.take off:=by
   rw[h4,List.take_append,yqY zo,yLX,List.take_append_of_le_length zo]
  have e2:cur.toList.drop (pre.length+off+vs.length)=us.drop (off+vs.length)++post:=by
   rw[h4,yOZ,yhY zo,yAY,show pre.length+off+vs.length-pre.length=off+vs.length by omega,List.drop_append_of_le_length zo]
  rw[e1,e2];simp[yVX]
 refine⟨k,pre.length,cap,_,h1,hrun,?_⟩;refine zg0 (z:=b) (y:=b) (kz:=k) hok (yhX _) (λ_ _=>rfl) rfl (λx h1 h2=>by have:s.n<=x:=h1;have:x<s.n:=h2;omega) (λb' o' hb hne=> ?_) (λo' hb=> ?_) (by simp[blk,h1]) (.inl ⟨_,zfe hr,by simp[blk,h1]⟩) rfl rfl rfl (by simp[World.setRow]) (λk' _ hne=>setRow_other w k k' _ hne)
 ·have:(s.h.put b (some _)).get b'=some o':=hb;rw[T.get_put,yfX hne] at this;exact⟨this,hne⟩
 ·have:(s.h.put b (some _)).get b=some o':=hb;rw[T.get_put,ygX rfl] at this;cases this;refine⟨k,pre.length,cap,_,fr,pre,us.take off++vs++us.drop (off+vs.length),post,h1,setRow_heap w k cur _ _ fr h2,?_,?_,rfl,?_,λhz=> ?_⟩
  ·have:(cur.toList.take (pre.length+off)++vs++cur.toList.drop (pre.length+off+vs.length)).toArray.size=cur.size:=by simp;omega
   rw[this];exact h3
  ·rw[←hcur]
  ·rw[hlx];exact((h6.take off).append hx).append (h6.drop _)
  ·have:=h7 hz;simp only[yvX,yYX,yYY];omega
end
end Go.Ex
namespace Go.Ex
open Go
def Rs (P:Program) (S:Sem Value) (m:Mp) (w:World) (s s':St) (v:AV):Prop:=∃y w' m',S.run P w= .ok y w'/\Goes s.h.get s'.h.get s.n s'.n m m' w w'/\R1 m' v y
def Nv (P:Program) (S:Sem Value) (m:Mp) (w:World) (s:St) (nx:Nx):Prop:=∃v s',nx= .val v s'/\(Fresh m s.n s'.n->Rs P S m w s s' v)
section
variable {P : Program} {m m' : Mp} {s s' : St} {w w' : World} {nx : Nx} {S : Sem Value}
theorem zby {a b:Nat} (h:Nat.blt a b=true):a<b:=by rwa [Nat.blt_eq] at h
theorem zdJ {a b:Nat} (h:Nat.ble a b=true):a<=b:=ynX h
theorem Rs.pure {v:AV} {y:Value} (hok:Ok m s.h.get w) (h:S.run P w= .ok y w) (hr:R1 m v y):Rs P S m w s s v:=⟨y,w,m,h,Goes.refl hok,hr⟩
theorem Nv.pure {v:AV} {y:Value} (hok:Ok m s.h.get w) (h:S.run P w= .ok y w) (hr:R1 m v y):Nv P S m w s (.val v s):=⟨v,s,rfl,λ_=>Rs.pure hok h hr⟩
theorem zgo {r:R AV} (h:ret s r= .ok nx):∃v,r= .ok v/\nx= .val v s:=by
 obtain⟨v,hv,h⟩:=zaf h;cases h;exact⟨v,hv,rfl⟩
theorem zmj {r:R (AV×St)} (h:zoF r= .ok nx):∃v s',r= .ok (v,s')/\nx= .val v s':=by
 obtain⟨v,hv,h⟩:=zaf h;cases h;exact⟨v.1,v.2,hv,rfl⟩
theorem zek (e:TypeId) (cs:Array Value) (w:World):(newRow e cs).run P w= .ok ⟨w.heap.size,0,none⟩ (w.alloc (.cells cs e)):=by
 simp[newRow,newObj,Sem.run]
theorem zfs {v:AV} {n:Nat} {y:Value} (h:zk8 v= .ok n) (hr:R1 m v y):∃k,y= .int k (n:Int):=by
 unfold zk8 at h;split at h
 ·rename_i k n';cases h;exact⟨k,hr⟩
 ·cases h
theorem zr9 {e:TypeId} (h:zuC P s e= .ok nx) (hok:Ok m s.h.get w):Nv P (Instr.alloc e true (.tuple #[])) m w s nx:=by
 obtain⟨i,hi,h⟩:=zaf h;obtain⟨z,hz,h⟩:=zaf h;cases h;have ht:=zaX hi;refine⟨_,_,rfl,λhf=>⟨_,_,_,?_,zew hok hf 0 0 e (Rl.sc z.cells.toList) [] (by simp),⟨_,_,_,zbb _ _ _,rfl⟩⟩⟩;simp[Instr.alloc,ht.zero z (zcf hz),newVar,zek]
theorem zv9 {e:TypeId} {x:AV} {X:Value} (h:zyE s e x= .ok nx) (hx:R1 m x X) (hok:Ok m s.h.get w):Nv P (Instr.box e X) m w s nx:=by
 obtain⟨hn,h⟩:=zav h;cases h;refine⟨_,_,rfl,λhf=>⟨_,_,_,?_,zew hok hf 0 0 e (zmU hn hx) [] (by simp),⟨_,_,_,zbb _ _ _,rfl⟩⟩⟩;simp[Instr.box,newVar,zek]
theorem ztb {t:TypeId} {x:AV} {X:Value} (h:zqY P s t x= .ok nx) (hx:R1 m x X) (hok:Ok m s.h.get w):Nv P (Instr.loadAt t X) m w s nx:=by
 unfold zqY at h;split at h
 ·obtain⟨v,hv,rfl⟩:=zgo h;obtain⟨k,o,c,hm,rfl⟩:=hx;obtain⟨k',o',cap,y,hm',hrun,hr⟩:=znO hv hok;rw[hm] at hm';cases hm';exact Nv.pure hok (y:=y) (by simp[Instr.loadAt,Instr.sureAddr,hrun]) hr
 ·obtain⟨i,hi,h⟩:=zaf h;obtain⟨v,hv,rfl⟩:=zgo h;obtain⟨k,o,vs,rfl,hl,hz⟩:=hx;obtain⟨y,hrun,hr⟩:=znE (zaX hi) (Rzl.rl hl) (λj v hv=>hok.cell (hz j v hv)) hv;exact Nv.pure hok (y:=y) (by simp[Instr.loadAt,Instr.sureAddr,hrun]) hr
 ·cases h
theorem zpO {t:TypeId} {x v:AV} {X V:Value} (h:zcY P s t x v= .ok nx) (hx:R1 m x X) (hv:R1 m v V) (hok:Ok m s.h.get w):
  ∃s',nx= .val AV.undef s'/\∃w',(Instr.storeAt t X V).run P w= .ok () w'/\Goes s.h.get s'.h.get s.n s'.n m m w w':=by
 unfold zcY at h;split at h
 ·obtain⟨i,hi,h⟩:=zaf h;obtain⟨hnv,h⟩:=zav h;obtain⟨hsz,h⟩:=zav h;obtain⟨s',hs,h⟩:=zaf h;cases h;have ht:=zaX hi;obtain⟨k,o,c,hm,rfl⟩:=hx;have hc:=zmU hnv hv;obtain⟨k',o',cap,w',hm',hrun,hg⟩:=ze5 (P:=P) hs hok hc;rw[hm] at hm';cases hm';refine⟨s',rfl,w',?_,hg⟩;have hl:=hc.length;have hsz':=yjX hsz
  have:V.cells.size=i.size:=by rw[←hsz',←hl];simp
  simp[Instr.storeAt,Instr.sureAddr,storeVar,ht.sz,this,hrun]
 ·cases h
theorem zhS {d:TypeDesc} {f:Nat} {fd:Field} (h:zhT d f= .ok fd):∃fields,d= .struct fields/\fields[f]? =some fd:=by
 unfold zhT at h;split at h
 ·rename_i fields;have:=zcf h;rw[zbc] at this;exact⟨fields,rfl,by simpa using this⟩
 ·cases h
theorem zkc {t:TypeId} {x:AV} {X:Value} {f:Nat} (h:zf7 P s t x f= .ok nx) (hx:R1 m x X) (hok:Ok m s.h.get w):Nv P (Instr.fieldAt t X f) m w s nx:=by
 unfold zf7 at h;split at h
 ·obtain⟨i,hi,h⟩:=zaf h;obtain⟨fd,hfd,h⟩:=zaf h;obtain⟨j,hj,h⟩:=zaf h;obtain⟨hz,h⟩:=zav h;cases h;have ht:=zaX hi;have hj:=zaX hj;obtain⟨fields,hd,hf⟩:=zhS hfd;obtain⟨k,o,c,hm,rfl⟩:=hx;refine Nv.pure hok (y:= .pointer (some ⟨k,o+(_+fd.offset),none⟩)) ?_ ⟨k,o,c,hm,rfl⟩
  have hz':j.size≠0:=by have:=zby hz;omega
  have hu:∀w,(underlying t).run P w= .ok (.struct fields) w:=λw=>by rw[ht.u,hd]
  simp[Instr.fieldAt,hu,hf,Instr.sureAddr,fieldPlace,hj.sz,hz',zaT,yrY]
 ·obtain⟨i,hi,h⟩:=zaf h;obtain⟨fd,hfd,h⟩:=zaf h;obtain⟨j,hj,h⟩:=zaf h;obtain⟨hz,h⟩:=zav h;cases h;have ht:=zaX hi;have hj:=zaX hj;obtain⟨fields,hd,hf⟩:=zhS hfd;obtain⟨k,o,vs,rfl,hl⟩:=hx;refine Nv.pure hok (y:= .pointer (some ⟨k,o+(_+fd.offset),none⟩)) ?_ ⟨k,o,vs,rfl,hl⟩
  have hz':j.size≠0:=by have:=zby hz;omega
  have hu:∀w,(underlying t).run P w= .ok (.struct fields) w:=λw=>by rw[ht.u,hd]
  simp[Instr.fieldAt,hu,hf,Instr.sureAddr,fieldPlace,hj.sz,hz',zaT,yrY]
 ·cases h
theorem zrp {t:TypeId} {x:AV} {X:Value} {f:Nat} (h:zrq P s t x f= .ok nx) (hx:R1 m x X) (hok:Ok m s.h.get w):Nv P (Instr.field t X f) m w s nx:=by
 have key:∀{cs:List AV} {xs:List Value},Rl m cs xs->(bd (ty P t) λi=>bd (zhT i.d f) λfd=>bd (ty P fd.type) λj=>ret s (zeE j cs fd.offset))= .ok nx->Nv P (Instr.field t (.agg xs.toArray) f) m w s nx:=by
  intro cs xs hl h;obtain⟨i,hi,h⟩:=zaf h;obtain⟨fd,hfd,h⟩:=zaf h;obtain⟨j,hj,h⟩:=zaf h;obtain⟨v,hv,rfl⟩:=zgo h;have ht:=zaX hi;obtain⟨fields,hd,hf⟩:=zhS hfd;obtain⟨y,hy,hr⟩:=zgU (w:=w) (zaX hj) hv hl;refine Nv.pure hok (y:=y) ?_ hr
  have hu:∀w,(underlying t).run P w= .ok (.struct fields) w:=λw=>by rw[ht.u,hd]
  simp[Instr.field,hu,hf,asAgg,hy]
 unfold zrq at h;split at h
 ·obtain⟨l',hl,rfl⟩:=hx;exact key hl h
 ·rename_i cs;cases hx;have:=key (Rl.sc cs.toList) h;simpa using this
 ·cases h
theorem zj0 {t:TypeId} {x i:AV} {X I:Value} (h:zcC P s t x i= .ok nx) (hx:R1 m x X) (hi:R1 m i I) (hok:Ok m s.h.get w):Nv P (Instr.indexAt t X I) m w s nx:=by
 obtain⟨n,hn,h⟩:=zaf h;obtain⟨d,hd,h⟩:=zaf h;obtain⟨k,rfl⟩:=zfs hn hi;have ht:=zaX hd;unfold zlj at h;split at h
 ·rename_i e hde
  have hu:∀w,(underlying t).run P w= .ok (.slice e) w:=λw=>by rw[ht.u,hde]
  have key:∀{b off len cap:Nat} {kb ob cb:Nat},m b=some (kb,ob,cb)->zbh (Nat.blt n len) (bd (ty P e) λj=> .ok (.val (.ptr b (off+n*j.size)) s))= .ok nx->Nv P (Instr.indexAt t (.slice (some ⟨kb,ob+off,none⟩) len cap) (.int k (n:Int))) m w s nx:=by
   intro b off len cap kb ob cb hm h;obtain⟨hlt,h⟩:=zav h;obtain⟨j,hj,h⟩:=zaf h;cases h;have hlt:=zby hlt;refine Nv.pure hok (y:= .pointer (some ⟨kb,ob+(off+n*j.size),none⟩)) ?_ ⟨kb,ob,cb,hm,rfl⟩
   have h1:(0:Int)<=(n:Int)/\(n:Int)<(len:Int):=⟨zo,zo⟩
   simp[Instr.indexAt,asIntOf,hu,h1,(zaX hj).sz,zaT,yrY];omega
  split at h
  ·obtain⟨kb,ob,cb,hm,rfl⟩:=hx;exact key hm h
  ·obtain⟨kb,ob,cb,hm,hc,rfl⟩:=hx;exact key hm h
  ·obtain⟨A,cap,rfl,hcap,hA,hf⟩:=hx;obtain⟨hlt,h⟩:=zav h;obtain⟨j,hj,h⟩:=zaf h;obtain⟨hsz,h⟩:=zav h;cases h;have hlt:=zby hlt;have hsz:=yjX hsz;obtain⟨kb,ob,vs,rfl,hl,hlen,hz⟩:=hf n hlt;refine Nv.pure hok (y:= .pointer (some ⟨kb,(ob+n*j.size)+0,none⟩)) ?_ ⟨kb,ob+n*j.size,vs,rfl,hl,λi v hv=>by rw[←hsz];exact hz i v hv⟩;have h1:(0:Int)<=(n:Int):=zo;simp[Instr.indexAt,asIntOf,hu,h1,hlt,(zaX hj).sz,zaT,yrY]
  ·cases h
 ·rename_i len e hde
  have hu:∀w,(underlying t).run P w= .ok (.array len e) w:=λw=>by rw[ht.u,hde]
  split at h
  ·obtain⟨kb,ob,cb,hm,rfl⟩:=hx;obtain⟨hlt,h⟩:=zav h;obtain⟨j,hj,h⟩:=zaf h;cases h;have hlt:=zby hlt;refine Nv.pure hok (y:= .pointer (some ⟨kb,ob+(_+n*j.size),none⟩)) ?_ ⟨kb,ob,cb,hm,rfl⟩
   have h1:(0:Int)<=(n:Int)/\(n:Int)<(len:Int):=⟨zo,zo⟩
   simp[Instr.indexAt,Instr.sureAddr,asIntOf,hu,h1,(zaX hj).sz,zaT,yrY];omega
  ·obtain⟨kb,ob,vs,rfl,hl⟩:=hx;obtain⟨hlt,h⟩:=zav h;obtain⟨j,hj,h⟩:=zaf h;cases h;have hlt:=zby hlt;refine Nv.pure hok (y:= .pointer (some ⟨kb,ob+(_+n*j.size),none⟩)) ?_ ⟨kb,ob,vs,rfl,hl⟩
   have h1:(0:Int)<=(n:Int)/\(n:Int)<(len:Int):=⟨zo,zo⟩
   simp[Instr.indexAt,Instr.sureAddr,asIntOf,hu,h1,(zaX hj).sz,zaT,yrY];omega
  ·cases h
 ·cases h
end
end Go.Ex
namespace Go.Ex
open Go
theorem zeK (z:Value) (n size:Nat) (hz:z.cells.size=size):((Array.range (n*size)).map (λi=>z.cells[i%z.cells.size]!)).toList=(List.replicate n z.cells.toList).flatten:=by
 subst hz;rw[Array.toList_map,Array.toList_range]
 induction n with
 |zero=>simp
 |succ n ih=>
  rw[yZX,yuZ,List.range_add,yJY,ih,List.replicate_succ',List.flatten_append]
  congr 1
  simp only[yDZ,List.flatten_nil,yKX];rw[List.map_map];apply yMY
  ·simp
  ·intro j h1 h2;simp only[List.length_map,List.length_range] at h1;simp only[List.getElem_map,List.getElem_range,Function.comp_apply,Array.getElem_toList];rw[Nat.mul_comm,Nat.mul_add_mod,ydZ h1,getElem!_pos z.cells j h1]
section
variable {P : Program} {m m' : Mp} {s s' : St} {w w' : World} {nx : Nx} {S : Sem Value}
theorem zl0 (n:Nat) (z:Value):Rl m (zc8 n z) (List.replicate n z.cells.toList).flatten:=by
 unfold zc8
 induction n with
 |zero=>exact rfl
 |succ n ih=>
  rw[yTY,yTY,yDZ,yDZ];exact(Rl.sc _).append ih
def Rp (m:Mp):List (Nat×AV)->List (Nat×Value)->Prop
 |[],ys=>ys=[]
 |p::l,ys=>∃y ys',ys=(p.1,y)::ys'/\R1 m p.2 y/\Rp m l ys'
theorem zrj (vs:List Value):∀(off i:Nat) (cells:Array Value),off+i+vs.length<=cells.size->
  ((vs.zipIdx i).foldl (λcs p=>cs.setIfInBounds (off+p.2) p.1) cells).toList=cells.toList.take (off+i)++vs++cells.toList.drop (off+i+vs.length):=by
 induction vs with
 |nil=>intro off i cells h;simp
 |cons v vs ih=>
  intro off i cells h;simp only[yGX] at h;rw[List.zipIdx_cons,List.foldl_cons,ih off (i+1) _ (by simp;omega)];have e:=list_seg_step cells.toList (off+i) v vs (by simp;omega);simpa[Array.toList_setIfInBounds,yrY] using e
theorem zrn (v:Value) (off:Nat) (cells:Array Value) (h:off+v.cells.size<=cells.size):
  (v.cells.zipIdx.foldl (λcs (p:Value×Nat)=>cs.setIfInBounds (off+p.2) p.1) cells).toList=cells.toList.take off++v.cells.toList++cells.toList.drop (off+v.cells.toList.length):=by
 have:=zrj v.cells.toList off 0 cells (by simpa using h);rw[←Array.foldl_toList,Array.toList_zipIdx];simpa using this
theorem zg2 {place:Nat->Option (Nat×Nat)}:∀{ps:List (Nat×AV)} {qs:List (Nat×Value)} {cs r:List AV} {cells:Array Value},zro place cs ps= .ok r->Rp m ps qs->Rl m cs cells.toList->
  ∃cells',Instr.fill place cells qs=some cells'/\Rl m r cells'.toList
 |[],_,cs,r,cells,h,hp,hc=>by
  cases h;cases hp;exact⟨cells,rfl,hc⟩
 |p::ps,_,cs,r,cells,h,⟨y,qs,e,hy,hp⟩,hc=>by
  subst e;obtain⟨q,hq,h⟩:=zaf h;obtain⟨hnv,h⟩:=zav h;obtain⟨hsz,h⟩:=zav h;obtain⟨c,hput,h⟩:=zaf h;have hq:=zcf hq;have hyc:=zmU hnv hy;obtain⟨rfl,hle,_⟩:=zjv hput;have hl1:=hyc.length;have hl2:=hc.length;have hsz:=yjX hsz;simp only[y0Z] at hl1 hl2;have hstep:=zrn y q.1 cells zo
  have hR:Rl m (cs.take q.1++p.2.cells++cs.drop (q.1+p.2.cells.length)) (y.cells.zipIdx.foldl (λcs (p:Value×Nat)=>cs.setIfInBounds (q.1+p.2) p.1) cells).toList:=by
   rw[hstep,show y.cells.toList.length=p.2.cells.length from by simpa using hl1];exact((hc.take _).append hyc).append (hc.drop _)
  obtain⟨cells',h1,h2⟩:=zg2 h hp hR;refine⟨cells',?_,h2⟩;obtain⟨q1,q2⟩:=q;simp only at hsz hle h1;unfold Instr.fill;simp only[hq];rw[yfX]
  ·exact h1
  ·simp only[yXY,yDX,not_or,Nat.not_lt,yFZ,bne_iff_ne,ne_eq];exact⟨zo,zo⟩
theorem zxr {t:Tm} {ρ:Operand->Value} (hev:∀x,R1 m (ev t x) (ρ x)):∀(ps:List (Nat×Operand)),Rp m (evp t ps) (ps.map λp=>(p.1,ρ p.2))
 |[]=>rfl
 |p::ps=>⟨_,_,rfl,hev p.2,zxr hev ps⟩
theorem ziw :∀{fs:List Field} {pl:List (Nat×Nat)},zms P fs= .ok pl->fs.mapM (λf=>(P.info? f.type).map λi=>(f.offset,i.size))=some pl
 |[],pl,h=>by cases h;rfl
 |f::fs,pl,h=>by
  obtain⟨i,hi,h⟩:=zaf h;obtain⟨r,hr,h⟩:=zaf h;cases h;obtain⟨inf,h1,h2,_⟩:=(zaX hi).info;have:=ziw hr;simp[List.mapM_cons,h1,h2,this]
theorem zrU {t:TypeId} {ps:List (Nat×AV)} {qs:Array (Nat×Value)} (h:zuz P s t ps= .ok nx) (hp:Rp m ps qs.toList) (hok:Ok m s.h.get w):Nv P (Instr.build t qs) m w s nx:=by
 obtain⟨i,hi,h⟩:=zaf h;obtain⟨z,hz,h⟩:=zaf h;have hz:=zcf hz;have ht:=zaX hi;obtain⟨inf,h1,h2,_,h3⟩:=ht.info;split at h
 ·rename_i fields hd;obtain⟨pl,hpl,h⟩:=zaf h;obtain⟨v,hv,rfl⟩:=zgo h;obtain⟨l,hl,hv⟩:=zaf hv;cases hv;obtain⟨cells',hf,hr⟩:=zg2 hl hp (Rl.sc z.cells.toList);refine Nv.pure hok (y:= .agg cells') (run_build w t qs cells' ?_) ⟨cells'.toList,hr,by simp⟩
  have hu:P.underlying t=some (.struct fields):=by rw[ht.und,hd]
  have e:(λk=>pl.toArray[k]?)=nth pl:=funext λk=>by rw[zbc];simp
  simp only[Program.built,h1,hu,h3,hz,ziw hpl];rw[e];exact hf
 ·rename_i n e hd;obtain⟨j,hj,h⟩:=zaf h;obtain⟨v,hv,rfl⟩:=zgo h;obtain⟨l,hl,hv⟩:=zaf hv;cases hv;obtain⟨cells',hf,hr⟩:=zg2 hl hp (Rl.sc z.cells.toList);obtain⟨ie,h4,h5,_⟩:=(zaX hj).info;refine Nv.pure hok (y:= .agg cells') (run_build w t qs cells' ?_) ⟨cells'.toList,hr,by simp⟩
  have hu:P.underlying t=some (.array n e):=by rw[ht.und,hd]
  simp only[Program.built,h1,hu,h3,hz,h4,h5];exact hf
 ·cases h
theorem zfC {d:TypeDesc} {e:TypeId} (h:zkh d= .ok e):d= .slice e:=by
 unfold zkh at h;split at h
 ·cases h;rfl
 ·cases h
theorem zik {t:TypeId} {n:Nat} {ps:List (Nat×AV)} {qs:Array (Nat×Value)} (h:zh3 P s t n ps= .ok nx) (hp:Rp m ps qs.toList) (hok:Ok m s.h.get w):Nv P (Instr.buildSlice t n qs) m w s nx:=by
 obtain⟨i,hi,h⟩:=zaf h;obtain⟨e,he,h⟩:=zaf h;obtain⟨j,hj,h⟩:=zaf h;obtain⟨hle,h⟩:=zav h;obtain⟨z,hz,h⟩:=zaf h;obtain⟨hsz,h⟩:=zav h;obtain⟨cs,hcs,h⟩:=zaf h;cases h;have hz:=zcf hz;have hle:=zdJ hle;have hsz:=yjX hsz;have ht:=zaX hi;have hj:=zaX hj;have hd:=zfC he
 have hu:∀w,(underlying t).run P w= .ok (.slice e) w:=λw=>by rw[ht.u,hd]
 have hzl:=zeK z n j.size hsz;have hR0:=zl0 (m:=m) n z;rw[←hzl] at hR0;obtain⟨cells',hf,hr⟩:=zg2 hcs hp hR0;refine⟨_,_,rfl,λhfr=>⟨_,_,_,?_,zew hok hfr 0 0 e hr [] (by simp),⟨_,_,_,zbb _ _ _,rfl⟩⟩⟩;have hle':¬(16777216<n*j.size):=zo;by_cases h0:n*j.size=0
 ·have hf0:Instr.fill (λi=>some (i*j.size,j.size)) #[] qs.toList=some cells':=by
   have e0:(Array.map (λi=>z.cells[i%z.cells.size]!) (Array.range (n*j.size)))= #[]:=by rw[h0];simp
   rw[e0] at hf;exact hf
  have e1:Array.map (λ(_:Nat)=>(default:Value)) (Array.range 0)= #[]:=by simp
  simp[Instr.buildSlice,hu,hj.sz,hle',h0];rw[e1,hf0];simp[zek]
 ·simp[Instr.buildSlice,hu,hj.sz,hle',h0,hj.zero z hz,zek,hf]
theorem zjL {t:TypeId} {l c:AV} {L C:Value} (h:zer P s t l c= .ok nx) (hl:R1 m l L) (hc:R1 m c C) (hok:Ok m s.h.get w):Nv P (Instr.makeSlice t L C) m w s nx:=by
 obtain⟨i,hi,h⟩:=zaf h;obtain⟨e,he,h⟩:=zaf h;obtain⟨j,hj,h⟩:=zaf h;obtain⟨l',hl',h⟩:=zaf h;obtain⟨c',hc',h⟩:=zaf h;obtain⟨hb,h⟩:=zav h;obtain⟨z,hz,h⟩:=zaf h;obtain⟨hsz,h⟩:=zav h;cases h;have hz:=zcf hz;have hsz:=yjX hsz;simp only[ykX] at hb;have hb1:=zdJ hb.1.1;have hb2:=zdJ hb.1.2;have hb3:=zdJ hb.2;have ht:=zaX hi;have hd:=zfC he;obtain⟨inf,h1,h2,h3,h4⟩:=(zaX hj).info;obtain⟨kl,rfl⟩:=zfs hl' hl;obtain⟨kc,rfl⟩:=zfs hc' hc
 have hu:P.underlying t=some (.slice e):=by rw[ht.und,hd]
 have hbytes:(inf.bytes:Int)*(c':Int)<=281474976710656:=by
  have:inf.bytes*c'<=281474976710656:=by rw[h3,Nat.mul_comm];omega
  rw[←Int.natCast_mul];omega
 have hrun:=run_make (P:=P) w t e inf z hu h1 (by rw[h4];exact hz) kl kc l' c' zo zo hbytes zo;simp only[yrX,h2] at hrun;have hR0:=zl0 (m:=m) c' z;refine⟨_,_,rfl,λhfr=>⟨_,_,upd m s.n (w.heap.size,0,0),hrun,?_,⟨_,_,_,zbb _ _ _,rfl⟩⟩⟩
 have e1:madeCells z.cells (c'*j.size)=((List.replicate c' z.cells.toList).flatten++[]).toArray:=by
  apply ynY.1;rw[yKX];exact zeK z c' j.size hsz
 rw[e1];exact zew hok hfr 0 0 e hR0 [] (by simp)
end
end Go.Ex
namespace Go.Ex
open Go
def Ro (m:Mp):Option AV->Option Value->Prop
 |none,x=>x=none
 |some v,x=>∃y,x=some y/\R1 m v y
section
variable {P : Program} {m m' : Mp} {s s' : St} {w w' : World} {nx : Nx} {S : Sem Value}
theorem zbS {k:IntKind} {n y:Nat} (code:BoundsCode) (h:n<=y):(Instr.sliceBound (.int k (n:Int)) y code).run P w= .ok n w:=by
 have:(0:Int)<=(n:Int)/\(n:Int)<=(y:Int):=⟨zo,zo⟩
 simp[Instr.sliceBound,asIntOf];omega
theorem zeB {x:Option AV} {X:Option Value} {d y n:Nat} (h:bound x d y= .ok n) (hr:Ro m x X):(x=none/\X=none/\n=d)∨∃k,x≠none/\X=some (.int k (n:Int))/\n<=y:=by
 cases x with
 |none=>cases h;exact .inl ⟨rfl,hr,rfl⟩
 |some v=>
  obtain⟨k,hk,h⟩:=zaf h;obtain⟨Y,rfl,hY⟩:=hr;obtain⟨kk,rfl⟩:=zfs hk hY;split at h
  ·rename_i hle;cases h;exact .inr ⟨kk,by simp,rfl,zdJ hle⟩
  ·cases h
theorem zbZ {len cap0 cap:Nat} {lo hi mx:Option AV} {Lo Hi Mx:Option Value} {r:Nat×Nat×Nat} (isS:Bool) (h:bounds len cap0 lo hi mx= .ok r) (hc:cap0<=cap) (hl:Ro m lo Lo) (hh:Ro m hi Hi) (hm:Ro m mx Mx):
  ∃m',(Instr.sliceBounds isS len cap Lo Hi Mx).run P w= .ok (r.1,r.2.1,m') w/\(mx=none->m'=cap/\r.2.2=cap0)/\(mx≠none->m'=r.2.2/\r.2.1<=r.2.2/\r.2.2<=cap0)/\r.1<=r.2.1/\(r.2.1=len∨r.2.1<=cap0):=by
 obtain⟨hmh,h⟩:=zav h;obtain⟨m1,h1,h⟩:=zaf h;obtain⟨h2,hh2,h⟩:=zaf h;obtain⟨l3,hl3,h⟩:=zaf h;cases h
 rcases zeB h1 hm with⟨rfl,rfl,rfl⟩|⟨km,hn,rfl,hle⟩
 ·rcases zeB hh2 hh with⟨rfl,rfl,rfl⟩|⟨kh,hnh,rfl,hleh⟩
  ·rcases zeB hl3 hl with⟨rfl,rfl,rfl⟩|⟨kl,hnl,rfl,hlel⟩
   ·exact⟨cap,by simp[Instr.sliceBounds],λ_=>⟨rfl,rfl⟩,λh=>absurd rfl h,ymX _, .inl rfl⟩
   ·exact⟨cap,by simp[Instr.sliceBounds,zbS _ hlel],λ_=>⟨rfl,rfl⟩,λh=>absurd rfl h,hlel, .inl rfl⟩
  ·have hleh':h2<=cap:=yBX hleh hc
   rcases zeB hl3 hl with⟨rfl,rfl,rfl⟩|⟨kl,hnl,rfl,hlel⟩
   ·exact⟨cap,by simp[Instr.sliceBounds,zbS _ hleh'],λ_=>⟨rfl,rfl⟩,λh=>absurd rfl h,ymX _, .inr hleh⟩
   ·exact⟨cap,by simp[Instr.sliceBounds,zbS _ hleh',zbS _ hlel],λ_=>⟨rfl,rfl⟩,λh=>absurd rfl h,hlel, .inr hleh⟩
 ·have hle':m1<=cap:=yBX hle hc
  rcases zeB hh2 hh with⟨rfl,rfl,rfl⟩|⟨kh,hnh,rfl,hleh⟩
  ·cases mx with
   |none=>exact absurd rfl hn
   |some v=>cases hmh
  ·rcases zeB hl3 hl with⟨rfl,rfl,rfl⟩|⟨kl,hnl,rfl,hlel⟩
   ·exact⟨m1,by simp[Instr.sliceBounds,zbS _ hle',zbS _ hleh],λh=>absurd h hn,λ_=>⟨rfl,hleh,hle⟩,ymX _, .inr (yBX hleh hle)⟩
   ·exact⟨m1,by simp[Instr.sliceBounds,zbS _ hle',zbS _ hleh,zbS _ hlel],λh=>absurd h hn,λ_=>⟨rfl,hleh,hle⟩,hlel, .inr (yBX hleh hle)⟩
theorem zvY {b off size kb ob cb:Nat} {r:Nat×Nat×Nat} (hm:m b=some (kb,ob,cb)):R1 m (cut b off size r) (.slice (if r.2.2=r.1 then some ⟨kb,ob+off,none⟩ else some ((⟨kb,ob+off,none⟩:Addr).add (r.1*size))) (r.2.1-r.1) (r.2.2-r.1)):=by
 unfold cut;by_cases h:r.2.2=r.1
 ·rw[ygX h,show Nat.beq r.2.2 r.1=true from by rw[h];exact ylY _];exact⟨kb,ob,cb,hm,rfl⟩
 ·have hb:Nat.beq r.2.2 r.1=false:=by
   cases h':Nat.beq r.2.2 r.1 with
   |false=>rfl
   |true=>exact absurd (yjX h') h
  rw[yfX h,hb,zaT];exact⟨kb,ob,cb,hm,by rw[yrY]⟩
theorem zeW {b k o cap z e:Nat} {fr:Nat×Nat} {cur:Array Value} {oldc:AO} {c:List AV} {pre' vs' post':List Value} (hok:Ok m s.h.get w) (hf:Fresh m s.n (s.n+1)) (hb:s.h.get b=some oldc) (hmb:blk m b=some k) (hw':w'.heap[k]? =some (.cells cur e fr)) (hfr:zya fr cur.size)
  (hc:cur.toList=pre'++(vs'++post')) (ho:pre'.length=o) (hR:Rl m c vs') (hz:z≠0->cap*z<=vs'.length+post'.length)
  (h1:w'.os=w.os) (h2:w'.tape=w.tape) (h3:w'.output=w.output) (h4:w.heap.size<=w'.heap.size) (h5:∀k',k'<w.heap.size->k'≠k->w'.heap[k']? =w.heap[k']?):
  Goes s.h.get ((s.h.put b none).put s.n (some (.row c e z))).get s.n (s.n+1) m (upd m s.n (k,o,cap)) w w':=by
 have hbn:b≠s.n:=by
  intro e;subst e;have:=hf s.n (yhX _) zo;unfold blk at hmb;rw[this] at hmb;cases hmb
 refine zg0 (z:=s.n) (y:=b) (kz:=k) hok (Nat.le_succ _) (zl2 _ _ _) rfl hf (λb' o' hb' hne=> ?_) (λo' hb'=> ?_) (by simp[blk,zbb]) (.inl ⟨_,hb,hmb⟩) h1 h2 h3 h4 h5
 ·rw[T.get_put,yfX hne,T.get_put] at hb';split at hb'
  ·cases hb'
  ·rename_i hnb;exact⟨hb',hnb⟩
 ·rw[T.get_put,ygX rfl] at hb';cases hb';exact⟨k,o,cap,cur,fr,pre',vs',post',zbb _ _ _,hw',hfr,hc,ho,Rl.mono (zpC hf) _ _ hR,hz⟩
theorem zy1 {a b c:Bool} (h:(a&&b&&c)=true):a=true/\b=true/\c=true:=by simpa[and_assoc] using h
theorem and4 {a b c d:Bool} (h:(a&&b&&c&&d)=true):a=true/\b=true/\c=true/\d=true:=by simpa[and_assoc] using h
theorem zpb {e size b off len start kb ob cb:Nat} {r:Nat×Nat×Nat} {v:AV} (h:zeZ s e size b off len start r= .ok (v,s')) (hok:Ok m s.h.get w) (hm:m b=some (kb,ob,cb)) (hc:start+len<=cb) (h1:r.1<=r.2.1) (h2:r.2.1<=len):
  Fresh m s.n s'.n->∃m',Goes s.h.get s'.h.get s.n s'.n m m' w w/\R1 m' v (.slice (if cb-start=r.1 then some ⟨kb,ob+off,none⟩ else some ((⟨kb,ob+off,none⟩:Addr).add (r.1*size))) (r.2.1-r.1) (cb-start-r.1)):=by
 intro hf;unfold zeZ at h;split at h
 ·rename_i h0;cases h;refine⟨m,Goes.refl hok,kb,ob,cb,hm,zo,?_⟩;rw[h0,zaT];simp
 ·rename_i l hl;split at h
  ·rename_i hlt;cases h;have hlt:=zby hlt;refine⟨m,Goes.refl hok,kb,ob,cb,hm,zo,?_⟩;rw[hl,yfX zo,zaT,yrY,Nat.sub_sub]
  ·rename_i hnlt
   have hge:len<=l+1:=by
    rcases yeY (l+1) len with h'|h'
    ·rw[show Nat.blt (l+1) len=true from by rw[Nat.blt_eq];exact h'] at hnlt;cases hnlt
    ·exact h'
   have e1:r.1=len:=zo;have e2:r.2.1=len:=zo;split at h
   rotate_left
   ·obtain⟨hz,h⟩:=zav h;cases h;have hz:=zby hz;refine⟨m,Goes.refl hok,?_⟩;rw[e1,e2,yQY];refine⟨_,_,rfl,ymX _,λhA=> ?_,λi hi=>absurd hi (ypX _)⟩
    rcases hA with hA|hA
    ·split at hA<;>cases hA
    ·omega
   rename_i o ho;obtain⟨hc4,h⟩:=zav h;cases h;obtain⟨q0,q1,q2,q3⟩:=and4 hc4;have q0:=yjX q0;have q1:=yjX q1;have q2:=yjX q2;have q3:=yjX q3;obtain⟨k,o',cap,cur,fr,pre,vs,post,g1,g2,g3,g4,g5,g6,g7⟩:=zdV ho hok;rw[hm] at g1;cases g1;subst g5;have hl6:=g6.length
   have hsz:cur.size=pre.length+(vs.length+post.length):=by
    have:=yqX List.length g4;simpa using this
   rw[q3] at g2;rw[e1,e2]
   have hroom:cb*size<=vs.length+post.length:=by
    by_cases hz:size=0
    ·rw[hz];simp
    ·have:=g7 (by rw[q2];exact hz)
     rwa [q2] at this
   have hmul:start*size+len*size+(cb-start-len)*size=cb*size:=by
    rw[←yZX,←yZX]
    congr 1
    omega
   by_cases hcl:cb-start=len
   ·refine⟨_,zeW (k:=kb) (o:=pre.length+off) (cap:=0) (z:=size) (c:=[]) hok hf (zfe ho) (by simp[blk,hm]) g2 g3 (pre':=pre++vs.take off) (vs':=[]) (post':=vs.drop off++post) (by rw[g4,yAY,yVX,←yVX (vs.take off),ygZ]) (by simp;omega) Rl.nil (by simp) rfl rfl rfl (yhX _) (λ_ _ _=>rfl),?_⟩;rw[ygX hcl];refine⟨_,_,_,zbb _ _ _,zo,?_⟩;rw[hcl];simp
   ·refine⟨_,zeW (k:=kb) (o:=pre.length+(off+len*size)) (cap:=cb-start-len) (z:=size) (c:=[]) hok hf (zfe ho) (by simp[blk,hm]) g2 g3 (pre':=pre++vs) (vs':=[]) (post':=post) (by rw[g4,yAY,yVX]) (by simp;omega) Rl.nil (λ_=>by simp;omega) rfl rfl rfl (yhX _) (λ_ _ _=>rfl),?_⟩;rw[yfX hcl,zaT];refine⟨_,_,_,zbb _ _ _,zo,?_⟩;simp[yrY]
theorem zbu {t e:TypeId} {size len cap m' l h:Nat} {a:Option Addr} {lo hi mx:Option Value} (hu:∀w,(underlying t).run P w= .ok (.slice e) w) (hs:∀w,(Go.sizeOf e).run P w= .ok size w) (hb:(Instr.sliceBounds true len cap lo hi mx).run P w= .ok (l,h,m') w):
  (Instr.sliceAt t (.slice a len cap) lo hi mx).run P w= .ok (.slice (if m'=l then a else a.map (·.add (l*size))) (h-l) (m'-l)) w:=by
 simp[Instr.sliceAt,Instr.slice,hu,hs,hb]
theorem zpY {t e:TypeId} {size:Nat} {x v:AV} {X:Value} {lo hi mx:Option AV} {Lo Hi Mx:Option Value} (hu:∀w,(underlying t).run P w= .ok (.slice e) w) (hs:∀w,(Go.sizeOf e).run P w= .ok size w) (h:ze7 s e size x lo hi mx= .ok (v,s')) (hx:R1 m x X) (hl:Ro m lo Lo) (hh:Ro m hi Hi) (hm:Ro m mx Mx) (hok:Ok m s.h.get w):
  Fresh m s.n s'.n->Rs P (Instr.sliceAt t X Lo Hi Mx) m w s s' v:=by
 intro hf;unfold ze7 at h;split at h
 ·obtain⟨r,hr,h⟩:=zaf h;cases h;cases hx;obtain⟨m',hb,q1,q2,q3,q4⟩:=zbZ (P:=P) (w:=w) true hr (yhX _) hl hh hm;have e0:r.2.1=0:=zo;have e1:r.1=0:=zo
  have e2:m'=0:=by
   cases mx with
   |none=>have:=q1 rfl;omega
   |some _=>have:=q2 (by simp);omega
  have hrun:=zbu (a:=none) hu hs hb;rw[e0,e1,e2] at hrun;exact Rs.pure hok hrun rfl
 ·rename_i a len cap;obtain⟨r,hr,h⟩:=zaf h;cases hx;obtain⟨m',hb,q1,q2,q3,q4⟩:=zbZ (P:=P) (w:=w) true hr (yhX _) hl hh hm
  have em:m'=r.2.2:=by
   cases mx with
   |none=>have:=q1 rfl;omega
   |some _=>exact(q2 (by simp)).1
  have hrun:=zbu (a:=some a) hu hs hb;split at h
  ·rename_i h0;cases h;rw[em,h0] at hrun;refine Rs.pure hok hrun ?_
   have ea:(some a).map (·.add (0*size))=some a:=by
    cases a;simp[Addr.add]
   show Value.slice _ _ _=Value.slice _ _ _;rw[ea];simp
  ·cases h
 ·rename_i b off len cap;obtain⟨r,hr,h⟩:=zaf h;cases h;obtain⟨k,o,c,hmb,rfl⟩:=hx;obtain⟨m',hb,q1,q2,q3,q4⟩:=zbZ (P:=P) (w:=w) true hr (yhX _) hl hh hm
  have em:m'=r.2.2:=by
   cases mx with
   |none=>have:=q1 rfl;omega
   |some _=>exact(q2 (by simp)).1
  have hrun:=zbu (a:=some ⟨k,o+off,none⟩) hu hs hb;rw[em] at hrun;exact Rs.pure hok hrun (zvY hmb)
 ·rename_i sz n f
  cases mx with
  |some y=>
   cases n with
   |succ n=>cases h
   |zero=>
    obtain⟨r,hr,h⟩:=zaf h;cases h;obtain⟨A,cap,rfl,hcap,hA,hf'⟩:=hx;obtain⟨m',hb,q1,q2,q3,q4⟩:=zbZ (P:=P) (w:=w) true hr hcap hl hh hm
    have e0:r.2.1=0:=by have:=q2 (by simp);omega
    have e1:r.1=0:=by have:=q2 (by simp);omega
    have e2:m'=0:=by have:=q2 (by simp);omega
    have hrun:=zbu (a:=A) hu hs hb;rw[e0,e1,e2] at hrun;refine Rs.pure hok hrun ⟨_,_,rfl,yhX _,λ_=>⟨rfl,rfl⟩,λi hi=>absurd hi (ypX _)⟩
  |none=>
  obtain⟨r,hr,h⟩:=zaf h;obtain⟨hc,h2⟩:=zav h;clear h;have hsz:=yjX hc;subst hsz;cases h2;cases hm;obtain⟨A,cap,rfl,hcap,hA,hf'⟩:=hx;obtain⟨m',hb,q1,q2,q3,q4⟩:=zbZ (P:=P) (w:=w) (Mx:=none) (m:=m) true hr hcap hl hh rfl;have em:m'=cap:=(q1 rfl).1;have hrun:=zbu (a:=A) hu hs hb;rw[em] at hrun;refine Rs.pure hok hrun ⟨_,_,rfl,zo,λh0=> ?_,λi hi=> ?_⟩
  ·rcases h0 with h0|h0
   ·cases A with
    |none=>have:=hA (.inl rfl);omega
    |some a=>split at h0<;>simp at h0
   ·have:=hA (.inr h0);omega
  ·obtain⟨k,o,vs,rfl,hl',hlen,hz⟩:=hf' (r.1+i) zo;refine⟨k,o+r.1*sz,vs,?_,hl',hlen,λj v hv=> ?_⟩
   ·rw[yfX zo];simp[zaT]
   ·rw[show o+r.1*sz+i*sz+j=o+(r.1+i)*sz+j by rw[yZX];omega];exact hz j v hv
 ·rename_i b off len start;obtain⟨k,o,c,hmb,hc,rfl⟩:=hx;split at h
  ·obtain⟨r,hr,h⟩:=zaf h;cases h;obtain⟨m',hb,q1,q2,q3,q4⟩:=zbZ (P:=P) (w:=w) (cap:=c-start) true hr zo hl hh hm;have em:m'=r.2.2:=(q2 (by simp)).1;have hrun:=zbu (a:=some ⟨k,o+off,none⟩) hu hs hb;rw[em] at hrun;exact Rs.pure hok hrun (zvY hmb)
  ·obtain⟨r,hr,h⟩:=zaf h;obtain⟨m',hb,q1,q2,q3,q4⟩:=zbZ (P:=P) (w:=w) (cap:=c-start) true hr zo hl hh hm;have em:m'=c-start:=(q1 rfl).1;have hrun:=zbu (a:=some ⟨k,o+off,none⟩) hu hs hb;rw[em] at hrun;obtain⟨m2,hg,hR⟩:=zpb h hok hmb hc q3 zo hf;exact⟨_,w,m2,hrun,hg,hR⟩
 ·cases h
theorem zpL {t:TypeId} {b:ByteArray} {lo hi mx:Option AV} {Lo Hi Mx:Option Value} {v:AV} (hu:∀w,(underlying t).run P w= .ok .string w) (h:znd b lo hi mx= .ok v) (hl:Ro m lo Lo) (hh:Ro m hi Hi) (hm:Ro m mx Mx):∃y,(Instr.sliceAt t (.string b) Lo Hi Mx).run P w= .ok y w/\R1 m v y:=by
 unfold znd at h;split at h
 ·cases h
 ·obtain⟨r,hr,h⟩:=zaf h;cases h;cases hm;obtain⟨m',hb,q1,q2,q3,q4⟩:=zbZ (P:=P) (w:=w) (Mx:=none) (m:=m) false hr (yhX _) hl hh rfl;have hle:r.2.1<=b.size:=zo;refine⟨.string (b.extract r.1 r.2.1),by simp[Instr.sliceAt,Instr.slice,hu,hb],?_⟩;show Value.string _=Value.string _
  congr 1
  apply ByteArray.ext;apply ynY.1;simp[ByteArray.data_extract,yQZ,ypZ]
theorem zma {t e n:Nat} {x v:AV} {X:Value} {lo hi mx:Option AV} {Lo Hi Mx:Option Value} (hu:∀w,(underlying t).run P w= .ok (.array n e) w) (h:zjc P s n e x lo hi mx= .ok (v,s')) (hx:R1 m x X) (hl:Ro m lo Lo) (hh:Ro m hi Hi) (hm:Ro m mx Mx) (hok:Ok m s.h.get w):
  Rs P (Instr.sliceAt t X Lo Hi Mx) m w s s' v:=by
 unfold zjc at h;split at h
 ·obtain⟨j,hj,h⟩:=zaf h;obtain⟨r,hr,h⟩:=zaf h;cases h;obtain⟨k,o,c,hmb,rfl⟩:=hx;obtain⟨m',hb,q1,q2,q3,q4⟩:=zbZ (P:=P) (w:=w) false hr (yhX _) hl hh hm
  have em:m'=r.2.2:=by
   cases mx with
   |none=>have:=q1 rfl;omega
   |some _=>exact(q2 (by simp)).1
  rw[em] at hb;refine Rs.pure hok ?_ (zvY hmb);simp[Instr.sliceAt,Instr.sureAddr,hu,hb,(zaX hj).sz];split<;>rfl
 ·cases h
theorem zp1 {t:TypeId} {x v:AV} {X:Value} {lo hi mx:Option AV} {Lo Hi Mx:Option Value} (h:zdS P s t x lo hi mx= .ok (v,s')) (hx:R1 m x X) (hl:Ro m lo Lo) (hh:Ro m hi Hi) (hm:Ro m mx Mx) (hok:Ok m s.h.get w) (hf:Fresh m s.n s'.n):
  Rs P (Instr.sliceAt t X Lo Hi Mx) m w s s' v:=by
 unfold zdS at h;split at h
 ·obtain⟨i,hi',h⟩:=zaf h;have ht:=zaX hi';split at h
  ·rename_i hd;obtain⟨v',hv,h⟩:=zaf h;cases h;cases hx;obtain⟨y,hy,hR⟩:=zpL (P:=P) (w:=w) (t:=t) (λw=>by rw[ht.u,hd]) hv hl hh hm;exact Rs.pure hok hy hR
  ·cases h
 ·obtain⟨i,hi',h⟩:=zaf h;have ht:=zaX hi';split at h
  ·rename_i e hd;obtain⟨j,hj,h⟩:=zaf h;exact zpY (λw=>by rw[ht.u,hd]) (zaX hj).sz h hx hl hh hm hok hf
  ·rename_i n e hd;exact zma (λw=>by rw[ht.u,hd]) h hx hl hh hm hok
  ·cases h
end
end Go.Ex
namespace Go.Ex
open Go
section
variable {P : Program} {m m' : Mp} {s s' : St} {w w' : World} {nx : Nx} {S : Sem Value}
theorem zh9 :∀{l:List AV} {ys:List Value},za8 l=true->Rl m l ys->∀y∈ys,y.oneCell'=true
 |[],_,_,e,y,hy=>by cases e;cases hy
 |x::l,_,h,⟨z,ys,e,h1,h2⟩,y,hy=>by
  subst e;unfold za8 at h;split at h
  ·rename_i ho
   rcases yAX.1 hy with rfl|hy
   ·obtain⟨q1,q2⟩:=zqE ho h1
    cases y<;>first|rfl|exact absurd rfl (q1 _)|exact absurd rfl (q2 _)
   ·exact zh9 h h2 y hy
  ·cases h
theorem zmV (b:ByteArray):Rl m (b.data.toList.map zbf) (byteCells b):=by
 unfold byteCells zbf;have:=Rl.sc (m:=m) (b.data.toList.map λb=>Value.int .u8 b.toNat)
 rwa [List.map_map] at this
theorem zhL {sz n cap:Nat} {f:Nat->List AV} {A:Option Addr} (h:∀i,i<n->∃k o vs,A=some ⟨k,o,none⟩/\Rzl m.z (f i) vs/\vs.length=sz/\∀j v,vs[j]? =some v->m.z k (o+i*sz+j)=some v):∀n',n'<=n->∃xs,Rl m ((List.range n').flatMap f) xs/\xs.length=n'*sz/\∀k o,A=some ⟨k,o,none⟩->∀j u,xs[j]? =some u->m.z k (o+j)=some u
 |0,_=>⟨[],rfl,by simp,λk o _ j u hj=>by simp at hj⟩
 |n'+1,hn=>by
  obtain⟨xs,h1,h2,h3⟩:=zhL (cap:=cap) h n' zo;obtain⟨k,o,vs,hA,h4,h5,h6⟩:=h n' zo;refine⟨xs++vs,?_,by rw[yvX,h2,h5,yZX,yuZ],λk' o' hA' j u hj=> ?_⟩
  ·rw[yUY,yJX];exact h1.append (by simpa using Rzl.rl h4)
  ·rw[hA] at hA';cases hA';rw[List.getElem?_append] at hj;split at hj
   ·exact h3 k o hA j u hj
   ·have:=h6 _ u hj;rw[h2] at this;rename_i hlt
    rwa [show o+n'*sz+(j-n'*sz)=o+j by omega] at this
theorem zpT {size:Nat} {v:AV} {V:Value} {r:Nat×List AV} (h:source s size v= .ok r) (hv:R1 m v V) (hok:Ok m s.h.get w):∃news,Rl m r.2 news/\(∀w':World,(Builtin.lenOf V).run P w'= .ok r.1 w')/\
  (size=1∨(∀b,V≠ .string b)->(Builtin.firstCells size r.1 V).run P w= .ok news.toArray w/\(Builtin.firstCells size r.1 V).run P w.drew= .ok news.toArray w.drew/\news.length=r.1*size):=by
 unfold source at h;split at h
 ·cases h;cases hv;refine⟨_,zmV _,λ_=>rfl,λh1=> ?_⟩
  rcases h1 with rfl|h1
  ·exact⟨firstCells_string _ w,firstCells_string _ w.drew,by rw[byteCells_length,Nat.mul_one]⟩
  ·exact absurd rfl (h1 _)
 ·cases h;cases hv;exact⟨[],rfl,λ_=>rfl,λ_=>⟨run_firstCells_none w size 0 0 0,run_firstCells_none w.drew size 0 0 0,by simp⟩⟩
 ·rename_i a cap;cases h;cases hv;exact⟨[],rfl,λ_=>rfl,λ_=>⟨run_firstCells_some w size 0 a 0 cap [] (by simp) (λj u hj=>by simp at hj),run_firstCells_some w.drew size 0 a 0 cap [] (by simp) (λj u hj=>by simp at hj),by simp⟩⟩
 ·rename_i b off cap;cases h;obtain⟨k,o,c,hm,rfl⟩:=hv;exact⟨[],rfl,λ_=>rfl,λ_=>⟨run_firstCells_some w size 0 _ 0 cap [] (by simp) (λj u hj=>by simp at hj),run_firstCells_some w.drew size 0 _ 0 cap [] (by simp) (λj u hj=>by simp at hj),by simp⟩⟩
 ·rename_i b off len cap _;obtain⟨l,hl,h⟩:=zaf h;cases h;obtain⟨k,o,c,hm,rfl⟩:=hv;obtain⟨k',o',cap',xs,h1,h2,h3,h4,h5⟩:=zes hl hok;rw[hm] at h1;cases h1
  have hc:∀j u,xs[j]? =some u->w.cell? ((⟨k,o+off,none⟩:Addr).add j)=some u:=λj u hj=>by rw[zaT];exact h5 j u hj
  exact⟨xs,h2,λ_=>rfl,λ_=>⟨run_firstCells_some w size len _ len cap xs h3 hc,run_firstCells_some w.drew size len _ len cap xs h3 (by simpa using hc),h3⟩⟩
 ·rename_i b off len start;obtain⟨l,hl,h⟩:=zaf h;cases h;obtain⟨k,o,c,hm,hc0,rfl⟩:=hv;obtain⟨k',o',cap',xs,h1,h2,h3,h4,h5⟩:=zes hl hok;rw[hm] at h1;cases h1
  have hc:∀j u,xs[j]? =some u->w.cell? ((⟨k,o+off,none⟩:Addr).add j)=some u:=λj u hj=>by rw[zaT];exact h5 j u hj
  exact⟨xs,h2,λ_=>rfl,λ_=>⟨run_firstCells_some w size len _ len _ xs h3 hc,run_firstCells_some w.drew size len _ len _ xs h3 (by simpa using hc),h3⟩⟩
 ·rename_i sz n f;obtain⟨hsz,h⟩:=zav h;cases h;have hsz:=yjX hsz;subst hsz;obtain⟨A,cap,rfl,hcap,hA,hf⟩:=hv;obtain⟨xs,h1,h2,h3⟩:=zhL (cap:=cap) hf n (yhX _)
  cases A with
  |none=>
   obtain⟨rfl,rfl⟩:=hA (.inl rfl);have e:xs=[]:=yeX (by rw[h2];simp);subst e;exact⟨[],h1,λ_=>rfl,λ_=>⟨run_firstCells_none w sz 0 0 0,run_firstCells_none w.drew sz 0 0 0,by simp⟩⟩
  |some a=>
   by_cases h0:n=0
   ·subst h0;have e:xs=[]:=yeX (by rw[h2];simp);subst e;exact⟨[],h1,λ_=>rfl,λ_=>⟨run_firstCells_some w sz 0 a 0 cap [] (by simp) (λj u hj=>by simp at hj),run_firstCells_some w.drew sz 0 a 0 cap [] (by simp) (λj u hj=>by simp at hj),by simp⟩⟩
   ·obtain⟨k,o,vs,ha,_⟩:=hf 0 zo;cases ha
    have hc:∀j u,xs[j]? =some u->w.cell? ((⟨k,o,none⟩:Addr).add j)=some u:=λj u hj=>by rw[zaT];exact hok.cell (h3 k o rfl j u hj)
    exact⟨xs,h1,λ_=>rfl,λ_=>⟨run_firstCells_some w sz n _ n cap xs h2 hc,run_firstCells_some w.drew sz n _ n cap xs h2 (by simpa using hc),h2⟩⟩
 ·cases h
theorem zji {d:TypeDesc} (h:zwL d=true):(∃e,d= .slice e)∨d= .string:=by
 cases d<;>first|exact Bool.noConfusion h|exact .inl ⟨_,rfl⟩|exact .inr rfl
theorem zcK {t tx ty e:TypeId} {i:TypeInfo} (ht:P.underlying t=some (.slice e)) (hi:P.info? e=some i) {base:Option Addr} {sLen sCap:Nat} (hle:sLen<=sCap) {x:Value} {d:TypeDesc} (hk:P.underlying tx=some d) (hd:zwL d=true) (hl:∀w':World,(Builtin.lenOf x).run P w'= .ok 0 w') (hc:(Builtin.firstCells i.size 0 x).run P w= .ok #[] w):
  (Builtin.append_ #[t,tx] ty #[.slice base sLen sCap,x]).run P w= .ok (.slice base sLen sCap) w:=by
 rcases zji hd with⟨e',rfl⟩|rfl<;>cases base<;>simp[Builtin.append_,run_underlying ht,run_underlying hk,sizeOf,typeInfo,hi,hl,hle,hc,storeCells]
theorem zj2 {t tx ty e:TypeId} {i:TypeInfo} {z:Value} {base:Option Addr} {sLen sCap n:Nat} {x:Value} {cs:List AV} {olds news:List Value} {r:AV×St} (hg:grow s e i.size (sLen+n) cs= .ok r) (hok:Ok m s.h.get w) (hf:Fresh m s.n r.2.n)
  (ht:P.underlying t=some (.slice e)) (hi:P.info? e=some i) (hz:i.zero=some z) (hzs:z.cells.size=i.size) (hold:(Builtin.firstCells i.size sLen (.slice base sLen sCap)).run P w.drew= .ok olds.toArray w.drew) (hs:Src P i.size tx x n news w) (hlt:sCap<sLen+n)
  (hb:(sLen+n)*i.bytes<=2^47) (h60:sLen+n<=2^60) (hR:Rl m cs (olds++news)) (hlen:olds.length=sLen*i.size):Rs P (Builtin.append_ #[t,tx] ty #[.slice base sLen sCap,x]) m w s r.2 r.1:=by
 cases hg;have hrun:=run_append_grow_src (P:=P) w t tx ty e i z ht hi hz base sLen sCap olds hold x n news hs hlt zo (growslice_fits hlt zo);have hge:=grownCap_ge w (sLen+n) sCap e;refine⟨_,_,upd m s.n (w.heap.size,0,grownCap w (sLen+n) sCap e),hrun,?_,⟨_,_,grownCap w (sLen+n) sCap e,zbb _ _ _,zo,rfl⟩⟩
 have hl:(olds++news).length=(sLen+n)*i.size:=by rw[yvX,hlen,hs.newsLen,yZX]
 have h1:=Goes.drew (n:=s.n) hok
 have h2:=zew (w:=w.drew) (s:=s) hok.drew hf (grownCap w (sLen+n) sCap e) i.size e hR (Builtin.zeroCells z.cells (grownCap w (sLen+n) sCap e-(sLen+n))).toList (λ_=>by
  rw[hl]
  have:(Builtin.zeroCells z.cells (grownCap w (sLen+n) sCap e-(sLen+n))).toList.length=(grownCap w (sLen+n) sCap e-(sLen+n))*i.size:=by simp[Builtin.zeroCells,hzs]
  rw[this,←yZX]
  exact yEX _ zo)
 have e1:((olds++news).toArray++Builtin.zeroCells z.cells (grownCap w (sLen+n) sCap e-(sLen+n)))=((olds++news)++(Builtin.zeroCells z.cells (grownCap w (sLen+n) sCap e-(sLen+n))).toList).toArray:=by
  apply ynY.1;simp
 rw[e1];exact h1.trans h2
theorem zpk {t tx ty e:TypeId} {i:Ty} {inf:TypeInfo} {d:TypeDesc} {x y:AV} {X Y:Value} {q:Nat×List AV} {r:AV×St} (h:zc7 s e i x q= .ok r) (hsrc:source s i.size y= .ok q) (hone:za8 q.2=true) (hx:R1 m x X) (hy:R1 m y Y) (hok:Ok m s.h.get w) (hf:Fresh m s.n r.2.n)
  (ht:P.underlying t=some (.slice e)) (hi:P.info? e=some inf) (hi1:inf.size=i.size) (hi2:inf.bytes=i.bytes) {z:Value} (hz:inf.zero=some z) (hzs:z.cells.size=i.size) (hpos:0<i.size) (hk:P.underlying tx=some d) (hd:zwL d=true) (hstr:i.size=1∨∀b,Y≠ .string b):
  Rs P (Builtin.append_ #[t,tx] ty #[X,Y]) m w s r.2 r.1:=by
 obtain⟨news,hR,hlen,hc⟩:=zpT (P:=P) hsrc hy hok;obtain⟨hc1,hc2,hnl⟩:=hc hstr
 have hkind:(∃e',P.underlying tx=some (.slice e'))∨P.underlying tx=some .string:=by
  rcases zji hd with⟨e',rfl⟩|rfl
  ·exact .inl ⟨e',hk⟩
  ·exact .inr hk
 have hS:Src P inf.size tx Y q.1 news w:=⟨hkind,hlen,by rw[hi1];exact hc1,by rw[hi1];exact hc2,by rw[hi1];exact hnl,zh9 hone hR⟩
 unfold zc7 at h;split at h
 ·cases hx;split at h
  ·rename_i h0;cases h;have hnil:news=[]:=yeX (by rw[hnl,h0];simp);refine Rs.pure hok (zcK ht hi (yhX _) hk hd (λw'=>by rw[hlen,h0]) ?_) rfl;rw[hi1,←h0,hc1,hnil]
  ·rename_i n h0
   replace h0:q.1=n+1:=h0
   obtain⟨hb,h⟩:=zav h;simp only[ykX,yDX] at hb;rw[h0] at hS;have:=zj2 (P:=P) (base:=none) (sLen:=0) (sCap:=0) (n:=n+1) (x:=Y) (olds:=[]) (news:=news) (i:=inf) (t:=t) (tx:=tx) (ty:=ty) (z:=z) (by rw[hi1];simpa using h) hok hf ht hi hz (by rw[hi1];exact hzs) (run_firstCells_none _ _ _ _ _) hS zo (by rw[hi2];simpa using hb.1) (by simpa using hb.2) (by simpa using hR) (by simp);simpa using this
 ·obtain⟨A,cap,rfl,hcap,hA,hf0⟩:=hx;obtain⟨_,rfl⟩:=hA (.inr rfl);split at h
  ·rename_i h0;cases h;have hnil:news=[]:=yeX (by rw[hnl,h0];simp);refine Rs.pure hok (zcK ht hi (yhX _) hk hd (λw'=>by rw[hlen,h0]) ?_) ⟨A,0,rfl,yhX _,hA,hf0⟩;rw[hi1,←h0,hc1,hnil]
  ·rename_i n h0
   replace h0:q.1=n+1:=h0
   obtain⟨hb,h⟩:=zav h;simp only[ykX,yDX] at hb;rw[h0] at hS
   cases A with
   |none=>
    have:=zj2 (P:=P) (base:=none) (sLen:=0) (sCap:=0) (n:=n+1) (x:=Y) (olds:=[]) (news:=news) (i:=inf) (t:=t) (tx:=tx) (ty:=ty) (z:=z) (by rw[hi1];simpa using h) hok hf ht hi hz (by rw[hi1];exact hzs) (run_firstCells_none _ _ _ _ _) hS zo (by rw[hi2];simpa using hb.1) (by simpa using hb.2) (by simpa using hR) (by simp);simpa using this
   |some a=>
    have:=zj2 (P:=P) (base:=some a) (sLen:=0) (sCap:=0) (n:=n+1) (x:=Y) (olds:=[]) (news:=news) (i:=inf) (t:=t) (tx:=tx) (ty:=ty) (z:=z) (by rw[hi1];simpa using h) hok hf ht hi hz (by rw[hi1];exact hzs) (run_firstCells_some _ _ _ _ _ _ [] (by simp) (λj u hj=>by simp at hj)) hS zo (by rw[hi2];simpa using hb.1) (by simpa using hb.2) (by simpa using hR) (by simp);simpa using this
 ·rename_i b off len cap;obtain⟨hb,h⟩:=zav h;simp only[ykX,yDX] at hb;obtain⟨k,o,c,hm,rfl⟩:=hx;split at h
  ·rename_i hle;have hle:=zdJ hle;obtain⟨s1,hs1,h⟩:=zaf h;cases h;obtain⟨k',o',cap',w',hm',hrun,hg⟩:=ze5 (P:=P) hs1 hok hR;rw[hm] at hm';cases hm';refine⟨_,w',m,?_,hg,⟨k,o,c,hm,rfl⟩⟩
   have hrun':(storeCells ((⟨k,o+off,none⟩:Addr).add (len*inf.size)) news.toArray.toList).run P w= .ok () w':=by
    rw[zaT,hi1,yrY];exact hrun
   have hc1':=hc1;rw[←hi1] at hc1'
   rcases zji hd with⟨e',rfl⟩|rfl<;>simp[Builtin.append_,run_underlying ht,run_underlying hk,sizeOf,typeInfo,hi,hlen,hle,hc1',hrun']
  ·rename_i hle;obtain⟨old,hold,h⟩:=zaf h;obtain⟨k',o',cap',xs,h1,h2,h3,h4,h5⟩:=zes hold hok;rw[hm] at h1;cases h1
   have hlt:cap<len+q.1:=by
    rcases yeY cap (len+q.1) with h'|h'
    ·exact h'
    ·rw[ysY h'] at hle;cases hle
   exact zj2 (P:=P) (base:=some ⟨k,o+off,none⟩) (sLen:=len) (sCap:=cap) (n:=q.1) (olds:=xs) (news:=news) (i:=inf) (z:=z) (by rw[hi1];exact h) hok hf ht hi hz (by rw[hi1];exact hzs) (run_firstCells_some _ _ _ _ _ _ xs (by rw[hi1];exact h3) (λj u hj=>by rw[zaT];exact h5 j u hj)) hS hlt (by rw[hi2];exact hb.1) hb.2 (h2.append hR) (by rw[hi1];exact h3)
 ·rename_i b off len start;obtain⟨k,o,c,hm,hc0,rfl⟩:=hx;split at h
  ·rename_i h0;cases h;have hnil:news=[]:=yeX (by rw[hnl,h0];simp);refine Rs.pure hok (zcK ht hi zo hk hd (λw'=>by rw[hlen,h0]) ?_) ⟨k,o,c,hm,hc0,rfl⟩;rw[hi1,←h0,hc1,hnil]
  ·rename_i n h0
   replace h0:q.1=n+1:=h0
   obtain⟨hb,h⟩:=zav h;obtain⟨hb0,hb1,hb2⟩:=zy1 hb;simp only[yDX] at hb1 hb2;have hb0:=yjX hb0;obtain⟨ro,hro,h⟩:=zaf h;obtain⟨hc3,h⟩:=zav h;obtain⟨g1,g2,g3⟩:=zy1 hc3;have g1:=yjX g1;have g2:=yjX g2;have g3:=yjX g3;cases h;obtain⟨k',o',cap',cur,fr,pre,vs,post,p1,p2,p3,p4,p5,p6,p7⟩:=zdV hro hok;rw[hm] at p1;cases p1;subst p5;have hl6:=p6.length
   have hsz:cur.size=pre.length+(vs.length+post.length):=by
    have:=yqX List.length p4;simpa using this
   have hroom:c*i.size<=vs.length+post.length:=by
    have:=p7 zo
    rwa [g2] at this
   rw[g3] at p2;rw[h0] at hS hnl hc1 hc2
   have hvd:(vs.drop off).length=len*i.size:=by rw[yYY];omega
   have hcd:∀j u,(vs.drop off)[j]? =some u->w.cell? ⟨k,pre.length+off+j,none⟩=some u:=λj u hj=>by
    rw[y8X] at hj;rw[yrY];exact cell_of p2 p4 hj
   by_cases hle:len+(n+1)<=c-start
   ·--in place
    have hmul:start*i.size+len*i.size+(n+1)*i.size<=c*i.size:=by
     rw[←yZX,←yZX];exact yEX _ zo
    have hrun:=zb6 P k (pre.length+off+len*i.size) e fr news 0 cur w p3 p2 (by rw[hnl];omega) (zh9 hone hR);simp only[yvZ] at hrun
    obtain⟨cur',ecur⟩:∃x,x=(cur.toList.take (pre.length+off+len*i.size)++news++cur.toList.drop (pre.length+off+len*i.size+news.length)).toArray:=⟨_,rfl⟩
    rw[←ecur] at hrun;refine⟨.slice (some ⟨k,pre.length+off,none⟩) (len+(n+1)) (c-start),w.setRow k cur',upd m s.n (k,pre.length+off,c-start),?_,zeW (cur:=cur') (k:=k) (o:=pre.length+off) (cap:=c-start) (z:=i.size) (c:=ro.1.drop off++q.2) hok hf (zfe hro) (by simp[blk,hm]) (setRow_heap w k cur cur' e fr p2) ?_ (pre':=pre++vs.take off) (vs':=vs.drop off++news) (post':=post.drop news.length) ?_ ?_ ((p6.drop off).append hR) ?_ rfl rfl rfl (by simp[World.setRow]) (λk' _ hne=>setRow_other w k k' cur' hne),⟨_,_,_,zbb _ _ _,zo,by simp⟩⟩
    ·have hrun':(storeCells ((⟨k,pre.length+off,none⟩:Addr).add (len*inf.size)) news.toArray.toList).run P w= .ok () (w.setRow k cur'):=by
      rw[zaT,hi1];exact hrun
     have hc1':=hc1;rw[←hi1] at hc1'
     have hlen':∀w':World,(Builtin.lenOf Y).run P w'= .ok (n+1) w':=λw'=>by rw[hlen,h0]
     rcases zji hd with⟨e',rfl⟩|rfl<;>simp[Builtin.append_,run_underlying ht,run_underlying hk,sizeOf,typeInfo,hi,hlen',hle,hc1',hrun']
    ·have:cur'.size=cur.size:=by
      rw[ecur];simp only[List.size_toArray,yvX,yYX,yYY,y0Z];rw[hnl];omega
     rw[this];exact p3
    ·have e1:pre.length+off+len*i.size=(pre++vs).length:=by rw[yvX];omega
     rw[ecur];show cur.toList.take _++news++cur.toList.drop _=_;rw[p4,←yVX pre,e1,List.take_left,yOZ,yhY zo,yAY,yLX];rw[yVX pre,yVX,yVX pre]
     congr 1
     rw[←yVX (vs.take off),←yVX (vs.take off),ygZ]
    ·simp;omega
    ·intro _;rw[yvX,hvd,yYY,hnl]
     have:(c-start)*i.size+start*i.size=c*i.size:=by rw[←yZX];congr 1;omega
     omega
   ·--a new block
    have hlt:c-start<len+(n+1):=zo;have hrun:=run_append_grow_src (P:=P) w t tx ty e inf z ht hi hz (some ⟨k,pre.length+off,none⟩) len (c-start) (vs.drop off) (run_firstCells_some _ _ _ _ _ _ _ (by rw[hi1];exact hvd) (λj u hj=>by rw[zaT];exact hcd j u hj)) Y (n+1) news hS hlt zo (growslice_fits hlt (by rw[hi2];exact hb1));have hge:=grownCap_ge w (len+(n+1)) (c-start) e;refine⟨_,_,upd m s.n (w.heap.size,0,grownCap w (len+(n+1)) (c-start) e),hrun,?_,⟨_,_,grownCap w (len+(n+1)) (c-start) e,zbb _ _ _,zo,rfl⟩⟩
    have hl:(vs.drop off++news).length=(len+(n+1))*i.size:=by rw[yvX,hvd,hnl,←yZX]
    have h1:=Goes.drew (n:=s.n) hok
    have h2:=zew (w:=w.drew) (s:=s) hok.drew hf (grownCap w (len+(n+1)) (c-start) e) i.size e ((p6.drop off).append hR) (Builtin.zeroCells z.cells (grownCap w (len+(n+1)) (c-start) e-(len+(n+1)))).toList (λ_=>by
     rw[hl]
     have:(Builtin.zeroCells z.cells (grownCap w (len+(n+1)) (c-start) e-(len+(n+1)))).toList.length=(grownCap w (len+(n+1)) (c-start) e-(len+(n+1)))*i.size:=by simp[Builtin.zeroCells,hzs]
     rw[this,←yZX]
     exact yEX _ zo)
    have e1:((vs.drop off++news).toArray++Builtin.zeroCells z.cells (grownCap w (len+(n+1)) (c-start) e-(len+(n+1))))=((vs.drop off++news)++(Builtin.zeroCells z.cells (grownCap w (len+(n+1)) (c-start) e-(len+(n+1)))).toList).toArray:=by
     apply ynY.1;simp
    rw[e1];have h3:=h1.trans h2
    have hsub:∀b' o',((s.h.put b none).put s.n (some (.row (ro.1.drop off++q.2) e i.size))).get b'=some o'->(s.new (.row (ro.1.drop off++q.2) e i.size)).h.get b'=some o':=by
     intro b' o' hb';show(s.h.put s.n (some _)).get b'=some o';rw[T.get_put] at hb'⊢;split at hb'
     ·rename_i hbn;rw[ygX hbn];exact hb'
     ·rename_i hbn;rw[yfX hbn];rw[T.get_put] at hb';split at hb'
      ·cases hb'
      ·exact hb'
    exact⟨h3.le,h3.ext,⟨λb' o' hb'=>h3.ok.has b' o' (hsub b' o' hb'),λb1 b2 o1 o2 hb1 hb2 hne=>h3.ok.apart b1 b2 o1 o2 (hsub _ _ hb1) (hsub _ _ hb2) hne,λk i v hv=>⟨(h3.ok.fz k i v hv).1,λb' o' hb'=>(h3.ok.fz k i v hv).2 b' o' (hsub _ _ hb')⟩,h3.ok.tbsub λb' o' hb'=>⟨b',o',hsub _ _ hb',rfl⟩⟩,h3.fr,λb' o' hb'=>h3.new b' o' (hsub _ _ hb'),h3.zle,h3.znew⟩
 ·cases h
end
end Go.Ex
namespace Go.Ex
open Go
section
variable {P : Program} {m m' : Mp} {s s' : St} {w w' : World} {nx : Nx} {S : Sem Value}
theorem znc {size:Nat} {y:AV} {Y:Value} (h:zpJ size y=true) (hy:R1 m y Y):size=1∨∀b,Y≠ .string b:=by
 unfold zpJ at h;split at h
 ·exact .inl (yjX h)
 ·cases h
 ·rename_i hne hne2;refine .inr λb e=> ?_;subst e
  cases y with
  |sc v=>cases hy;exact hne b rfl
  |ptr _ _=>obtain⟨_,_,_,_,e⟩:=hy;cases e
  |sl _ _ _ _=>obtain⟨_,_,_,_,e⟩:=hy;cases e
  |so _ _ _ _=>obtain⟨_,_,_,_,_,e⟩:=hy;cases e
  |fn _ _ _=>obtain⟨_,_,_,_,e⟩:=hy;cases e
  |agg _=>obtain⟨_,_,e⟩:=hy;cases e
  |tup _=>obtain⟨_,_,e⟩:=hy;cases e
  |ifc _ _=>obtain⟨_,_,e⟩:=hy;cases e
  |any=>exact hne2 rfl
  |lst _ _ _=>obtain⟨_,_,e,_⟩:=hy;cases e
  |cp _ _=>obtain⟨_,_,_,e,_⟩:=hy;cases e
theorem zpm {tx ty' ty:TypeId} {x y:AV} {X Y:Value} {r:AV×St} (h:zkv P s tx ty' x y= .ok r) (hx:R1 m x X) (hy:R1 m y Y) (hok:Ok m s.h.get w) (hf:Fresh m s.n r.2.n):
  Rs P (Builtin.append_ #[tx,ty'] ty #[X,Y]) m w s r.2 r.1:=by
 obtain⟨i,hi,h⟩:=zaf h;obtain⟨e,he,h⟩:=zaf h;obtain⟨j,hj,h⟩:=zaf h;obtain⟨hpos,h⟩:=zav h;obtain⟨z,hz,h⟩:=zaf h;obtain⟨hzs,h⟩:=zav h;obtain⟨d,hd,h⟩:=zaf h;obtain⟨hseq,h⟩:=zav h;obtain⟨q,hq,h⟩:=zaf h;obtain⟨hone,h⟩:=zav h;simp only[ykX] at hzs;obtain⟨inf,h1,h2,h3,h4⟩:=(zaX hj).info;exact zpk h hq hone hx hy hok hf (by rw[(zaX hi).und,zfC he]) h1 h2 h3 (by rw[h4];exact zcf hz) (yjX hzs.1) (zby hpos) (zaX hd).und hseq (znc hzs.2 hy)
theorem zhc {size:Nat} {v:AV} {V:Value} {r:Nat×List AV} (h:source s size v= .ok r) (hv:R1 m v V) (hok:Ok m s.h.get w) (hstr:size=1∨∀b,V≠ .string b) (n:Nat) (hn:n<=r.1):
  ∃news,Rl m (r.2.take (n*size)) news/\(∀w':World,(Builtin.lenOf V).run P w'= .ok r.1 w')/\(Builtin.firstCells size n V).run P w= .ok news.toArray w:=by
 unfold source at h;split at h
 ·cases h;cases hv
  rcases hstr with rfl|h1
  ·rename_i b;refine⟨(byteCells b).take n,by rw[Nat.mul_one];exact(zmV b).take n,λ_=>rfl,?_⟩;simp[Builtin.firstCells,byteCells];apply ynY.1;simp[ByteArray.data_extract,yQZ,ypZ]
  ·exact absurd rfl (h1 _)
 ·cases h;cases hv
  have:n=0:=by simpa using hn
  subst this;exact⟨[],by rw[yHZ];exact Rl.nil,λ_=>rfl,by simp[Builtin.firstCells]⟩
 ·rename_i a cap;cases h;cases hv
  have:n=0:=by simpa using hn
  subst this;exact⟨[],by rw[yHZ];exact Rl.nil,λ_=>rfl,run_firstCells_some w size 0 a 0 cap [] (by simp) (λj u hj=>by simp at hj)⟩
 ·rename_i b off cap;cases h;obtain⟨k,o,c,hm,rfl⟩:=hv
  have:n=0:=by simpa using hn
  subst this;exact⟨[],by rw[yHZ];exact Rl.nil,λ_=>rfl,run_firstCells_some w size 0 _ 0 cap [] (by simp) (λj u hj=>by simp at hj)⟩
 ·rename_i b off len cap _;obtain⟨l,hl,h⟩:=zaf h;cases h;obtain⟨k,o,c,hm,rfl⟩:=hv;obtain⟨k',o',cap',xs,h1,h2,h3,h4,h5⟩:=zes hl hok;rw[hm] at h1;cases h1;have hle:n*size<=len*size:=yEX _ hn;refine⟨xs.take (n*size),h2.take _,λ_=>rfl,run_firstCells_some w size n _ len cap _ (by rw[yYX];omega) (λj u hj=> ?_)⟩;rw[zaT];rw[yNX] at hj;split at hj
  ·exact h5 j u hj
  ·cases hj
 ·rename_i b off len start;obtain⟨l,hl,h⟩:=zaf h;cases h;obtain⟨k,o,c,hm,hc0,rfl⟩:=hv;obtain⟨k',o',cap',xs,h1,h2,h3,h4,h5⟩:=zes hl hok;rw[hm] at h1;cases h1;have hle:n*size<=len*size:=yEX _ hn;refine⟨xs.take (n*size),h2.take _,λ_=>rfl,run_firstCells_some w size n _ len _ _ (by rw[yYX];omega) (λj u hj=> ?_)⟩;rw[zaT];rw[yNX] at hj;split at hj
  ·exact h5 j u hj
  ·cases hj
 ·rename_i sz n' f;obtain⟨hsz,h⟩:=zav h;cases h;have hsz:=yjX hsz;subst hsz;obtain⟨A,cap,rfl,hcap,hA,hf⟩:=hv;obtain⟨xs,h1,h2,h3⟩:=zhL (cap:=cap) hf n' (yhX _);have hle:n*sz<=n'*sz:=yEX _ hn;refine⟨xs.take (n*sz),h1.take _,λ_=>rfl,?_⟩
  cases A with
  |none=>
   obtain⟨rfl,rfl⟩:=hA (.inl rfl)
   have:n=0:=by simpa using hn
   subst this;simp[Builtin.firstCells]
  |some a=>
   by_cases h0:n'=0
   ·subst h0
    have:n=0:=by simpa using hn
    subst this;exact run_firstCells_some w sz 0 a 0 cap _ (by simp) (λj u hj=>by simp at hj)
   ·obtain⟨k,o,vs,ha,_⟩:=hf 0 zo;cases ha;refine run_firstCells_some w sz n _ n' cap _ (by rw[yYX];omega) (λj u hj=> ?_);rw[zaT];rw[yNX] at hj;split at hj
    ·exact hok.cell (h3 k o rfl j u hj)
    ·cases hj
 ·cases h
theorem ztv {tx ty' ty e:TypeId} {size:Nat} {x y:AV} {X Y:Value} {q:Nat×List AV} {r:AV×St} (h:zvZ s size x q= .ok r) (hq:source s size y= .ok q) (hu:∀w,(underlying tx).run P w= .ok (.slice e) w) (hz:∀w,(Go.sizeOf e).run P w= .ok size w) (hst:size=1∨∀b,Y≠ .string b) (hx:R1 m x X) (hy:R1 m y Y) (hok:Ok m s.h.get w):
  Rs P (Builtin.copy_ #[tx,ty'] ty #[X,Y]) m w s r.2 r.1:=by
 have key:∀{b off len cap:Nat} {k o c:Nat} {s1:St},zcH s b off (q.2.take (min q.1 len*size))= .ok s1->m b=some (k,o,c)->r=(.sc (.int .i64 (min q.1 len:Nat)),s1)->Rs P (Builtin.copy_ #[tx,ty'] ty #[.slice (some ⟨k,o+off,none⟩) len cap,Y]) m w s r.2 r.1:=by
  intro b off len cap k o c s1 hs1 hm hr;subst hr;obtain⟨news,h1,h2,h3⟩:=zhc (P:=P) hq hy hok hst (min q.1 len) (Nat.min_le_left _ _);obtain⟨k',o',cap',w',hm',hrun,hg⟩:=ze5 (P:=P) hs1 hok h1;rw[hm] at hm';cases hm';refine⟨goInt (min q.1 len:Nat),w',m,?_,hg,rfl⟩;have e1:Nat.min q.1 len=min q.1 len:=rfl;simp[Builtin.copy_,hu,h2,hz,e1,h3,hrun]
 unfold zvZ at h;split at h
 ·cases h;cases hx;obtain⟨news,h1,h2,h3⟩:=zhc (P:=P) hq hy hok hst 0 (ymX _);refine Rs.pure hok (y:=goInt 0) ?_ rfl;have e1:Nat.min q.1 0=0:=Nat.min_zero _;simp[Builtin.copy_,hu,h2,hz,e1,h3]
 ·obtain⟨s1,hs1,h⟩:=zaf h;cases h;obtain⟨k,o,c,hm,rfl⟩:=hx;exact key hs1 hm rfl
 ·obtain⟨s1,hs1,h⟩:=zaf h;cases h;obtain⟨k,o,c,hm,hc0,rfl⟩:=hx;exact key hs1 hm rfl
 ·cases h
theorem ztw {tx ty' ty:TypeId} {x y:AV} {X Y:Value} {r:AV×St} (h:zxE P s tx x y= .ok r) (hx:R1 m x X) (hy:R1 m y Y) (hok:Ok m s.h.get w):
  Rs P (Builtin.copy_ #[tx,ty'] ty #[X,Y]) m w s r.2 r.1:=by
 obtain⟨i,hi,h⟩:=zaf h;obtain⟨e,he,h⟩:=zaf h;obtain⟨j,hj,h⟩:=zaf h;obtain⟨hstr,h⟩:=zav h;obtain⟨q,hq,h⟩:=zaf h;exact ztv h hq (λw=>by rw[(zaX hi).u,zfC he]) (zaX hj).sz (znc hstr hy) hx hy hok
theorem zvt {ts:Array TypeId} {ty:TypeId} {x y:AV} {X Y:Value} (h:zyn s x y= .ok nx) (hx:R1 m x X) (hy:R1 m y Y) (hok:Ok m s.h.get w):Nv P (Builtin.min_ ts ty #[X,Y]) m w s nx:=by
 unfold zyn at h;split at h
 ·split at h
  ·cases h;cases hx;cases hy;exact Nv.pure hok (y:= .int _ (zfu _ _)) (by simp[Builtin.min_,Builtin.min2,zfu]) rfl
  ·cases h
 ·cases h
theorem zvv {ts:Array TypeId} {ty:TypeId} {x y:AV} {X Y:Value} (h:zyo s x y= .ok nx) (hx:R1 m x X) (hy:R1 m y Y) (hok:Ok m s.h.get w):Nv P (Builtin.max_ ts ty #[X,Y]) m w s nx:=by
 unfold zyo at h;split at h
 ·split at h
  ·cases h;cases hx;cases hy;exact Nv.pure hok (y:= .int _ (zxc _ _)) (by simp[Builtin.max_,Builtin.max2,zxc]) rfl
  ·cases h
 ·cases h
theorem zrR {t ty:TypeId} {x:AV} {X:Value} {z:Value} {s1:St} (hz:zrQ P t= .ok z) (h:zlC s x z= .ok s1) (hx:R1 m x X) (hok:Ok m s.h.get w):
  Rs P (Builtin.clear_ #[t] ty #[X]) m w s s1 (.tup []):=by
 obtain⟨i,hi,hz⟩:=zaf hz;obtain⟨e,he,hz⟩:=zaf hz;obtain⟨j,hj,hz⟩:=zaf hz
 have hu:∀w,(underlying t).run P w= .ok (.slice e) w:=λw=>by rw[(zaX hi).u,zfC he]
 have hzv:∀w,(zeroValue e).run P w= .ok z w:=(zaX hj).zero z (zcf hz)
 have key:∀{b off len cap:Nat} {k o c:Nat} {s1:St},zcH s b off (zc8 len z)= .ok s1->m b=some (k,o,c)->Rs P (Builtin.clear_ #[t] ty #[.slice (some ⟨k,o+off,none⟩) len cap]) m w s s1 (.tup []):=by
  intro b off len cap k o c s1 hs1 hm;obtain⟨k',o',cap',w',hm',hrun,hg⟩:=ze5 (P:=P) hs1 hok (zl0 len z);rw[hm] at hm';cases hm';refine⟨.tuple #[],w',m,?_,hg,⟨[],rfl,rfl⟩⟩
  cases len with
  |zero=>
   have:w=w':=by simpa[storeCells] using hrun
   subst this;simp[Builtin.clear_,hu]
  |succ n=>
   have e1:(Builtin.zeroCells z.cells (n+1)).toList=(List.replicate (n+1) z.cells.toList).flatten:=zeK z (n+1) _ rfl;simp only[Builtin.clear_,hu,hzv,e1,hrun,y2X,y6Y,yWX,y5Y];simp[hu,hzv,e1,hrun]
 unfold zlC at h;split at h
 ·cases h;cases hx;exact Rs.pure hok (y:= .tuple #[]) (by simp[Builtin.clear_,hu]) ⟨[],rfl,rfl⟩
 ·obtain⟨k,o,c,hm,rfl⟩:=hx;exact key h hm
 ·obtain⟨k,o,c,hm,hc0,rfl⟩:=hx;exact key h hm
 ·cases h
theorem zvF {t ty:TypeId} {x:AV} {X:Value} (h:zx0 P s t x= .ok nx) (hx:R1 m x X) (hok:Ok m s.h.get w):Nv P (Builtin.len_ #[t] ty #[X]) m w s nx:=by
 unfold zx0 at h;split at h
 ·obtain⟨d,hd,h⟩:=zaf h;split at h
  ·rename_i hds;cases h;cases hx
   have hu:∀w,(underlying t).run P w= .ok .string w:=λw=>by rw[(zaX hd).u,hds]
   exact Nv.pure hok (y:=goInt _) (by simp[Builtin.len_,hu]) rfl
  ·cases h
 ·obtain⟨d,hd,h⟩:=zaf h;split at h
  ·rename_i e hds;obtain⟨n,hn,h⟩:=zaf h;cases h
   have hu:∀w,(underlying t).run P w= .ok (.slice e) w:=λw=>by rw[(zaX hd).u,hds]
   unfold zyQ at hn;split at hn
   ·cases hn;cases hx;exact Nv.pure hok (y:=goInt _) (by simp[Builtin.len_,hu]) rfl
   ·cases hn;cases hx;exact Nv.pure hok (y:=goInt _) (by simp[Builtin.len_,hu]) rfl
   ·cases hn;obtain⟨k,o,c,hm,rfl⟩:=hx;exact Nv.pure hok (y:=goInt _) (by simp[Builtin.len_,hu]) rfl
   ·cases hn;obtain⟨k,o,c,hm,hc,rfl⟩:=hx;exact Nv.pure hok (y:=goInt _) (by simp[Builtin.len_,hu]) rfl
   ·cases hn;obtain⟨A,cap,rfl,h'⟩:=hx;exact Nv.pure hok (y:=goInt _) (by simp[Builtin.len_,hu]) rfl
   ·cases hn
  ·cases h
theorem zv5 {t ty:TypeId} {x:AV} {X:Value} (h:zyR P s t x= .ok nx) (hx:R1 m x X) (hok:Ok m s.h.get w):Nv P (Builtin.cap_ #[t] ty #[X]) m w s nx:=by
 obtain⟨d,hd,h⟩:=zaf h;split at h
 ·rename_i e hds
  have hu:∀w,(underlying t).run P w= .ok (.slice e) w:=λw=>by rw[(zaX hd).u,hds]
  split at h
  ·cases h;cases hx;exact Nv.pure hok (y:=goInt _) (by simp[Builtin.cap_,hu]) rfl
  ·cases h;obtain⟨k,o,c,hm,rfl⟩:=hx;exact Nv.pure hok (y:=goInt _) (by simp[Builtin.cap_,hu]) rfl
  ·cases h
 ·cases h
theorem ztF {b:ByteArray} {i:Nat} {v:AV} (h:zv4 b i= .ok v):∃c,b.data.toList[i]? =some c/\v=zbf c:=by
 obtain⟨c,hc,h⟩:=zaf h;cases h;have:=zcf hc;rw[zbc] at this;exact⟨c,this,rfl⟩
theorem zrc {t:TypeId} {x i:AV} {X I:Value} (h:znW P s t x i= .ok nx) (hx:R1 m x X) (hi:R1 m i I) (hok:Ok m s.h.get w):Nv P (Instr.index t X I) m w s nx:=by
 obtain⟨n,hn,h'⟩:=zaf h;clear h;have h:=h';clear h';obtain⟨k,rfl⟩:=zfs hn hi
 have key:∀{cs:List AV} {xs:List Value},Rl m cs xs->(bd (ty P t) λd=>match d.d with| .array len e=>zbh (Nat.blt n len) (bd (ty P e) λj=>ret s (zeE j cs (n*j.size)))|_=>R.no "index")= .ok nx->Nv P (Instr.index t (.agg xs.toArray) (.int k (n:Int))) m w s nx:=by
  intro cs xs hl h;obtain⟨d,hd,h⟩:=zaf h;split at h
  ·rename_i len e hds;obtain⟨hlt,h⟩:=zav h;obtain⟨j,hj,h⟩:=zaf h;obtain⟨v,hv,rfl⟩:=zgo h;have hlt:=zby hlt;obtain⟨y,hy,hr⟩:=zgU (w:=w) (zaX hj) hv hl
   have hu:∀w,(underlying t).run P w= .ok (.array len e) w:=λw=>by rw[(zaX hd).u,hds]
   refine Nv.pure hok (y:=y) ?_ hr
   have h1:(0:Int)<=(n:Int)/\(n:Int)<(len:Int):=⟨zo,zo⟩
   simp[Instr.index,asIntOf,hu,h1,(zaX hj).sz,hy];omega
  ·cases h
 split at h
 ·rename_i b;obtain⟨d,hd,h⟩:=zaf h;split at h
  ·rename_i hds;obtain⟨v,hv,rfl⟩:=zgo h;cases hx;obtain⟨c,hc,rfl⟩:=ztF hv
   have hu:∀w,(underlying t).run P w= .ok .string w:=λw=>by rw[(zaX hd).u,hds]
   refine Nv.pure hok (y:= .int .u8 c.toNat) ?_ rfl
   have hb:b[n]? =some c:=by
    have hlt:n<b.data.toList.length:=(y7X.1 hc).1
    have hlt':n<b.size:=by simpa using hlt
    rw[getElem?_pos b n hlt'];rw[ysX hlt] at hc;have e:=yfZ hc;exact yqX some (show b.data[n]=c from by simpa using e)
   simp[Instr.index,asIntOf,hu,hb]
  ·cases h
 ·obtain⟨l',hl,rfl⟩:=hx;exact key hl h
 ·rename_i cs;cases hx;have:=key (Rl.sc cs.toList) h;simpa using this
 ·cases h
theorem zmM {x:AV} {X:Value} {i:Nat} (h:zke s x i= .ok nx) (hx:R1 m x X) (hok:Ok m s.h.get w):Nv P (Instr.extract X i) m w s nx:=by
 unfold zke at h;split at h
 ·obtain⟨v,hv,rfl⟩:=zgo h;obtain⟨l',hl,rfl⟩:=hx;obtain⟨y,hy,hr⟩:=Rl.get i v hl (zgV hv);exact Nv.pure hok (y:=y) (by simp[Instr.extract,hy]) hr
 ·obtain⟨v,hv,h⟩:=zaf h;cases h;cases hx;have:=zcf hv;rw[zbc] at this;exact Nv.pure hok (y:=v) (by simp at this;simp[Instr.extract,this]) rfl
 ·cases h
theorem zdU {d:TypeDesc} (h:isIface d=false):∀ms,d≠ .interface ms:=by
 intro ms e;subst e;cases h
theorem zfY {t:TypeId} {x:AV} {X:Value} (h:zeI P s t x= .ok nx) (hx:R1 m x X) (hok:Ok m s.h.get w):Nv P (Instr.makeInterface t X) m w s nx:=by
 obtain⟨i,hi,h⟩:=zaf h;obtain⟨hn,h⟩:=zav h;cases h;have hu:=(zaX hi).u;have hn':∀ms,i.d≠ .interface ms:=zdU (by simpa using hn);refine Nv.pure hok (y:= .iface t X) ?_ ⟨X,hx,rfl⟩
 cases hd:i.d<;>rw[hd] at hu hn'<;>first
  |exact absurd rfl (hn' _)
  |simp[Instr.makeInterface,hu]
theorem zpj {t xt asserted:TypeId} {v:AV} {v':Value} {ok:Bool} {i:Ty} (hi:TyR P asserted i) (hn:∀ms,i.d≠ .interface ms) (h:zmZ s t asserted v i.zero ok= .ok nx) (hv:R1 m v v') (hok:Ok m s.h.get w):Nv P (Instr.typeAssert (.iface t v') xt asserted ok) m w s nx:=by
 have hu:=hi.u;unfold zmZ at h;split at h
 ·rename_i hb;have hb:=yjX hb;subst hb;cases h;refine Nv.pure hok (y:=if ok then .tuple #[v', .bool true] else v') ?_ ?_
  ·cases hd:i.d<;>rw[hd] at hu hn<;>first
    |exact absurd rfl (hn _)
    |(cases ok<;>simp[Instr.typeAssert,hu])
  ·cases ok
   ·exact hv
   ·exact⟨[v', .bool true],⟨_,_,rfl,hv,_,_,rfl,rfl,rfl⟩,rfl⟩
 ·rename_i hb
  have hne:t≠asserted:=by
   intro e;subst e;rw[ylY] at hb;cases hb
  obtain⟨ho,h⟩:=zav h;subst ho;obtain⟨z,hz,h⟩:=zaf h;cases h;refine Nv.pure hok (y:= .tuple #[z, .bool false]) ?_ ⟨[z, .bool false],⟨_,_,rfl,rfl,_,_,rfl,rfl,rfl⟩,rfl⟩;have hz':=hi.zero z (zcf hz)
  cases hd:i.d<;>rw[hd] at hu hn<;>first
    |exact absurd rfl (hn _)
    |simp[Instr.typeAssert,hu,hne,hz']
theorem zid {x:AV} {X:Value} {xt asserted:TypeId} {ok:Bool} (h:zeM P s x asserted ok= .ok nx) (hx:R1 m x X) (hok:Ok m s.h.get w):Nv P (Instr.typeAssert X xt asserted ok) m w s nx:=by
 unfold zeM at h;split at h
 ·obtain⟨v',hv,rfl⟩:=hx;obtain⟨i,hi,h⟩:=zaf h;obtain⟨hn,h⟩:=zav h;exact zpj (zaX hi) (zdU (by simpa using hn)) h hv hok
 ·cases h
end
end Go.Ex
namespace Go.Ex
open Go
section
variable {P : Program} {m m' : Mp} {s s' : St} {w w' : World} {nx : Nx} {S : Sem Value}
theorem zoX {e:TypeId} (h:zdv P e=true):∀w,(underlying e).run P w= .ok (.int .u8) w:=by
 intro w;unfold zdv at h;split at h
 ·rename_i hu;simp[underlying,program,Sem.run,hu]
 ·cases h
theorem ziV :∀{l:List AV} {bs:List UInt8} {xs:List Value},bytesOf l= .ok bs->Rl m l xs->∃ns:List Int,xs=ns.map (Value.int .u8)/\bs=ns.map λn=>UInt8.ofNat n.toNat
 |[],bs,xs,h,e=>by
  cases h;cases e;exact⟨[],rfl,rfl⟩
 |v::l,bs,xs,h,⟨y,ys,e,h1,h2⟩=>by
  unfold bytesOf at h;split at h
  ·rename_i hv;cases hv
  ·rename_i n l' hv;cases hv;obtain⟨q,hq,h⟩:=zaf h;cases h;cases h1;obtain⟨ns,e1,e2⟩:=ziV hq h2;exact⟨n::ns,by rw[e,e1];rfl,by rw[e2];rfl⟩
  ·cases h
theorem foldl_push :∀(ns:List Int) (b:ByteArray),(ns.foldl (λr n=>r.push (UInt8.ofNat n.toNat)) b).data.toList=b.data.toList++ns.map λn=>UInt8.ofNat n.toNat
 |[],b=>by simp
 |n::ns,b=>by
  rw[List.foldl_cons,foldl_push ns];simp[ByteArray.push]
theorem ztB {src dst e:TypeId} {b:ByteArray} (hs:P.underlying src=some .string) (hd:P.underlying dst=some (.slice e)) (he:P.underlying e=some (.int .u8)) (hok:Ok m s.h.get w) (hf:Fresh m s.n (s.n+1)):
  Rs P (convert src dst (.string b)) m w s (s.new (.row (b.data.toList.map zbf) e 1)) (.so s.n 0 b.size 0):=by
 have hrun:=run_bytes_of_string (P:=P) w src dst e b hs hd he;have hge:=grownCap_ge w b.size 0 e
 have hrow:∀c,bytesRow b c=(byteCells b++List.replicate (c-b.size) (Value.int .u8 0)).toArray:=λc=>by
  unfold bytesRow byteCells;apply ynY.1;simp
 rw[hrow] at hrun;refine⟨_,_,upd m s.n (w.heap.size,0,grownCap w b.size 0 e),hrun,(Goes.drew (n:=s.n) hok).trans (zj3 hok.drew hf 0 (grownCap w b.size 0 e) _ _ ⟨w.heap.size,0,grownCap w b.size 0 e,_,_,[],byteCells b,_,zbb _ _ _,heap_alloc_new w.drew _,λj hj h=> ?_,rfl,rfl,Rl.mono (zpC hf) _ _ (zmV b),λ_=> ?_⟩),⟨_,_,_,zbb _ _ _,zo,rfl⟩⟩
 ·simp only at h;omega
 ·rw[byteCells_length,yKZ];omega
theorem ztz {src dst:TypeId} {i j:Ty} (hi:TyR P src i) (hj:TyR P dst j) {x:AV} {X:Value} (h:zmS P s i.d j.d x= .ok nx) (hx:R1 m x X) (hok:Ok m s.h.get w):Nv P (convert src dst X) m w s nx:=by
 have hus:=hi.u;have hud:=hj.u;have hus':=hi.und;have hud':=hj.und;unfold zmS at h;split at h
 ·rename_i e hs;split at h
  ·rename_i hd;rw[hs] at hus;rw[hd] at hud;obtain⟨hb,h⟩:=zav h;have hbe:=zoX hb
   have key:∀{b off len cap:Nat} {k o c:Nat},m b=some (k,o,c)->(bd (zeF s b off len) λcs=>bd (bytesOf cs) λbs=> .ok (.val (.sc (.string ⟨bs.toArray⟩)) s))= .ok nx->Nv P (convert src dst (.slice (some ⟨k,o+off,none⟩) len cap)) m w s nx:=by
    intro b off len cap k o c hm h;obtain⟨cs,hcs,h⟩:=zaf h;obtain⟨bs,hbs,h⟩:=zaf h;cases h;obtain⟨k',o',cap',xs,h1,h2,h3,hrun⟩:=zqX (P:=P) hcs hok;rw[hm] at h1;cases h1;obtain⟨ns,rfl,rfl⟩:=ziV hbs h2;have hr:=run_bytesToString w ⟨k,o+off,none⟩ len cap ns hrun;refine Nv.pure hok (y:= .string (ns.foldl (λr n=>r.push (UInt8.ofNat n.toNat)) ByteArray.empty)) ?_ ?_
    ·simp[convert,hus,hud,hbe,hr]
    ·show Value.string _=Value.string _
     congr 1
     apply ByteArray.ext;apply ynY.1;rw[foldl_push];simp
   split at h
   ·cases h;cases hx;exact Nv.pure hok (y:= .string .empty) (by simp[convert,hus,hud,hbe,Conv.bytesToString]) rfl
   ·obtain⟨k,o,c,hm,rfl⟩:=hx;exact key hm h
   ·obtain⟨k,o,c,hm,hc,rfl⟩:=hx;exact key hm h
   ·cases h
  ·cases h
 ·rename_i hs;split at h
  ·rename_i e hd;rw[hs] at hus';rw[hd] at hud';obtain⟨hb,h⟩:=zav h;split at h
   ·obtain⟨hle,h⟩:=zav h;cases h;cases hx;refine⟨_,_,rfl,λhf=>ztB hus' hud' ?_ hok hf⟩;unfold zdv at hb;split at hb
    ·assumption
    ·cases hb
   ·cases h
  ·cases h
 ·cases h
theorem pure?_ok {α:Type}:∀{x:Sem α} {a:α},pure? P x= .ok a->∀w,x.run P w= .ok a w
 | .pure a,_,h,w=>by cases h;rfl
 | .program k,_,h,w=>pure?_ok (x:=k P) h w
 | .mark _ k,_,h,w=>pure?_ok (x:=k) h w
 | .load ..,_,h,_=>by cases h
 | .store ..,_,h,_=>by cases h
 | .new ..,_,h,_=>by cases h
 | .shape ..,_,h,_=>by cases h
 | .freeze ..,_,h,_=>by cases h
 | .frozen ..,_,h,_=>by cases h
 | .getObj ..,_,h,_=>by cases h
 | .setObj ..,_,h,_=>by cases h
 | .choose ..,_,h,_=>by cases h
 | .sys ..,_,h,_=>by cases h
 | .halt ..,_,h,_=>by cases h
theorem zn7 {t:Tm} {ρ:Operand->Value} (hev:∀x,R1 m (ev t x) (ρ x)):∀{l:List Operand} {vs:List Value},AV.val.vals (evs t l)= .ok vs->∀x∈l,ρ x=zuI (ev t x).val
 |[],_,_,x,hx=>by cases hx
 |y::l,vs,h,x,hx=>by
  obtain⟨q,hq,h⟩:=zaf h;obtain⟨qs,hqs,h⟩:=zaf h
  rcases yAX.1 hx with rfl|hx
  ·rw[hq];exact zpz hq (hev x)
  ·exact zn7 hev hqs x hx
theorem zmN {t:Tm} {ρ:Operand->Value} (hev:∀x,R1 m (ev t x) (ρ x)):∀(l:List Operand),Rl m (evs t l) (l.map ρ)
 |[]=>rfl
 |x::l=>⟨_,_,rfl,hev x,zmN hev l⟩
theorem zvR {t:Tm} {ρ:Operand->Value} (hev:∀x,R1 m (ev t x) (ρ x)):∀(x:Option Operand),Ro m (evo t x) (x.map ρ)
 |none=>rfl
 |some x=>⟨_,rfl,hev x⟩
def NxR (P:Program) (o:Oper) (ρ:Operand->Value) (m:Mp) (w:World) (s:St):Nx->Prop
 | .val v s'=>Fresh m s.n s'.n->∃x w' m',((execOp ρ o).run P w= .ok (.value x) w'∨((execOp ρ o).run P w= .ok .skip w'/\x=undef))/\Goes s.h.get s'.h.get s.n s'.n m m' w w'/\R1 m' v x
 | .enter f args=>∃args',(execOp ρ o).run P w= .ok (.enter f args'.toArray) w/\Rl m args args'
theorem NxR.of {o:Oper} {ρ:Operand->Value} (h:Nv P S m w s nx) (he:execOp ρ o=(do pure (.value (←S)))):NxR P o ρ m w s nx:=by
 obtain⟨v,s',rfl,h⟩:=h;intro hf;obtain⟨y,w',m',hr,hg,hR⟩:=h hf;exact⟨y,w',m', .inl (by rw[he];simp[hr]),hg,hR⟩
theorem zeo {t:Tm} {o:Oper} {ρ:Operand->Value} (h:zaR P t s o= .ok nx) (hev:∀x,R1 m (ev t x) (ρ x)) (hok:Ok m s.h.get w):NxR P o ρ m w s nx:=by
 obtain⟨vs,hvs,h⟩:=zaf h;obtain⟨hs,h⟩:=zav h;have hops:=zn7 hev hvs
 have hs':∀cs b,o.op≠ .select cs b:=by
  intro cs b e;rw[e] at hs;cases hs
 unfold zua at h;split at h
 ·rename_i v hp;cases h;intro _;refine⟨v,w,m, .inl ?_,Goes.refl hok,rfl⟩;rw[execOp_congr o hs' (λx hx=>hops x (by simpa using hx))];exact pure?_ok hp w
 ·cases h
end
end Go.Ex
namespace Go.Ex
open Go
section
variable {P : Program} {m m' : Mp} {s s' : St} {w w' : World} {nx : Nx} {S : Sem Value} {o : Oper} {ρ : Operand -> Value}
theorem NxR.value {v:AV} {y:Value} (hok:Ok m s.h.get w) (h:(execOp ρ o).run P w= .ok (.value y) w) (hr:R1 m v y):NxR P o ρ m w s (.val v s):=λ_=>⟨y,w,m, .inl h,Goes.refl hok,hr⟩
theorem zqK (n:Nat) (k:Nat->R Nx):zym n k=k n:=by cases n<;>rfl
theorem zjZ (n:Int) (k:Int->R Nx):zys n k=k n:=by
 cases n with
 |ofNat n=>exact zqK n λm=>k (.ofNat m)
 |negSucc n=>exact zqK n λm=>k (.negSucc m)
theorem zkP {n:Int} (h:znh n=true):IntKind.i64.wrap n=n:=by
 have: -9223372036854775808<=n/\n<=9223372036854775807:=by
  cases n with
  |ofNat n=>
   have:=zdJ h;rw[show Int.ofNat n=(n:Int) from rfl];omega
  |negSucc n=>have:=zdJ h;omega
 rw[IntKind.wrap_i64];omega
theorem zg4 {b:Bool} (h:zgD s b= .ok nx):nx= .val (.sc (.bool b)) s:=by
 cases b<;>(cases h;rfl)
theorem zqe {op:BinOp} {xt yt:TypeId} {x y:Operand} {k:IntKind} {a b:Int} (ho:o.op= .binOp op xt x y yt) (hx:ρ x= .int k a) (hy:ρ y= .int k b) {v:Value} (h:(binOp op xt (.int k a) (.int k b)).run P w= .ok v w):(execOp ρ o).run P w= .ok (.value v) w:=by
 have hg:(eqGuard op xt x y (.int k a) (.int k b)).run P w= .ok () w:=by cases op<;>rfl
 simp[execOp,ho,hx,hy,hg,h]
theorem zrb {op:BinOp} {xt yt:TypeId} {x y:Operand} {k:IntKind} {a b:Int} {other:R Nx} (ho:o.op= .binOp op xt x y yt) (hx:ρ x= .int k a) (hy:ρ y= .int k b) (h:zgt op k a b s other= .ok nx) (hoth:other= .ok nx->NxR P o ρ m w s nx) (hok:Ok m s.h.get w):NxR P o ρ m w s nx:=by
 have wr:∀{n:Int},zg7 k n s other= .ok nx->(binOp op xt (.int k a) (.int k b)).run P w= .ok (.int k (k.wrap n)) w->NxR P o ρ m w s nx:=by
  intro n h hr;unfold zg7 at h;split at h
  ·split at h
   ·rename_i hs;rw[zjZ] at h;cases h;refine NxR.value hok (zqe ho hx hy hr) ?_;show Value.int _ _=_;rw[zkP hs]
   ·exact hoth h
  ·exact hoth h
 have bo:∀{c:Bool},zgD s c= .ok nx->(binOp op xt (.int k a) (.int k b)).run P w= .ok (.bool c) w->NxR P o ρ m w s nx:=by
  intro c h hr;rw[zg4 h];exact NxR.value hok (zqe ho hx hy hr) rfl
 cases op<;>first
  |exact hoth h
  |exact wr h (by simp[binOp,Op.intArith])
  |exact bo h (by simp[binOp,Op.intCmp])
theorem zhh {k k':IntKind} (h:sameKind k k'=true):k=k':=by
 cases k<;>cases k'<;>first|rfl|exact absurd h (by decide)
theorem zo4 (d:Nat) {t e:TypeId} {a:Addr} (hu:∀w,(underlying t).run P w= .ok (.pointer e) w) (w:World):(Op.equalIn (d+1) t (.pointer none) (.pointer (some a))).run P w= .ok false w:=by simp[Op.equalIn,hu]
theorem zo3 (d:Nat) {t e:TypeId} {a:Addr} (hu:∀w,(underlying t).run P w= .ok (.pointer e) w) (w:World):(Op.equalIn (d+1) t (.pointer (some a)) (.pointer none)).run P w= .ok false w:=by simp[Op.equalIn,hu]
theorem zex (d:Nat) {t e:TypeId} {a:Addr} {n c:Nat} (hu:∀w,(underlying t).run P w= .ok (.slice e) w) (w:World):(Op.equalIn (d+1) t (.slice (some a) n c) (.slice none 0 0)).run P w= .ok false w:=by simp[Op.equalIn,hu]
theorem zo5 (d:Nat) {t:TypeId} {p q:Array TypeId} {v:Bool} {f:Fn} {a b:Array Value} (hu:∀w,(underlying t).run P w= .ok (.func p q v) w) (w:World):(Op.equalIn (d+1) t (.func f a b) .nilFunc).run P w= .ok false w:=by simp[Op.equalIn,hu]
theorem zxy {t:TypeId} {i:Ty} {x y:AV} {X Y:Value} {b:Bool} (hi:TyR P t i) (h:eqA i.d x y= .ok b) (hx:R1 m x X) (hy:R1 m y Y):(Op.equal t X Y).run P w= .ok b w/\(∀op xo yo,(eqGuard op t xo yo X Y).run P w= .ok () w)/\(∀k n,X≠ .int k n):=by
 have hu:=hi.u;unfold eqA at h;split at h
 ·rename_i e hd;rw[hd] at hu;split at h
  ·split at h
   ·cases h;cases hx;obtain⟨k,o,c,hm,rfl⟩:=hy;exact⟨zo4 9999 hu w,λop _ _=>(by cases op<;>rfl),λ_ _ e=>(by cases e)⟩
   ·cases h
  ·split at h
   ·cases h;cases hy;obtain⟨k,o,c,hm,rfl⟩:=hx;exact⟨zo3 9999 hu w,λop _ _=>(by cases op<;>rfl),λ_ _ e=>(by cases e)⟩
   ·cases h
  ·cases h
 ·rename_i e hd;rw[hd] at hu;split at h
  ·split at h
   ·cases h;cases hy;obtain⟨k,o,c,hm,rfl⟩:=hx;exact⟨zex 9999 hu w,λop _ _=>(by cases op<;>rfl),λ_ _ e=>(by cases e)⟩
   ·cases h
  ·split at h
   ·cases h;cases hy;obtain⟨k,o,c,hm,hc,rfl⟩:=hx;exact⟨zex 9999 hu w,λop _ _=>(by cases op<;>rfl),λ_ _ e=>(by cases e)⟩
   ·cases h
  ·split at h
   ·split at h
    ·rename_i hn;cases h;cases hy;obtain⟨A,cap,rfl,hcap,hA,hf⟩:=hx
     cases A with
     |none=>obtain⟨rfl,_⟩:=hA (.inl rfl);cases hn
     |some a=>exact⟨zex 9999 hu w,λop _ _=>(by cases op<;>rfl),λ_ _ e=>(by cases e)⟩
    ·cases h
   ·cases h
  ·split at h
   ·cases h;cases hx;cases hy;exact⟨zex 9999 hu w,λop _ _=>(by cases op<;>rfl),λ_ _ e=>(by cases e)⟩
   ·cases h
  ·cases h
 ·rename_i p1 p2 p3 hd;rw[hd] at hu;split at h
  ·split at h
   ·cases h;cases hy;obtain⟨a',b',ha,hb,rfl⟩:=hx;exact⟨zo5 9999 hu w,λop _ _=>(by cases op<;>rfl),λ_ _ e=>(by cases e)⟩
   ·cases h
  ·cases h
 ·cases h
theorem ztm {d:TypeDesc} {x y:AV} {X:Value} {b:Bool} (h:eqA d x y= .ok b) (hx:R1 m x X):(∃a,X= .pointer a)∨(∃a b c,X= .slice a b c)∨∃f a b,X= .func f a b:=by
 cases x with
 |sc v=>
  cases hx;unfold eqA at h;split at h
  ·split at h
   ·rename_i hv;cases hv;exact .inl ⟨_,rfl⟩
   ·rename_i hv;cases hv
   ·cases h
  ·split at h
   ·rename_i hv;cases hv
   ·rename_i hv;cases hv
   ·rename_i hv;cases hv
   ·rename_i hv;cases hv;exact .inr (.inl ⟨_,_,_,rfl⟩)
   ·cases h
  ·split at h
   ·rename_i hv;cases hv
   ·cases h
  ·cases h
 |ptr _ _=>obtain⟨k,o,c,hm,rfl⟩:=hx;exact .inl ⟨_,rfl⟩
 |sl _ _ _ _=>obtain⟨k,o,c,hm,rfl⟩:=hx;exact .inr (.inl ⟨_,_,_,rfl⟩)
 |so _ _ _ _=>obtain⟨k,o,c,hm,hc,rfl⟩:=hx;exact .inr (.inl ⟨_,_,_,rfl⟩)
 |fn _ _ _=>obtain⟨k,o,c,hm,rfl⟩:=hx;exact .inr (.inr ⟨_,_,_,rfl⟩)
 |agg _=>unfold eqA at h;split at h<;>(try split at h)<;>first|cases h|(rename_i hv;cases hv)
 |tup _=>unfold eqA at h;split at h<;>(try split at h)<;>first|cases h|(rename_i hv;cases hv)
 |ifc _ _=>unfold eqA at h;split at h<;>(try split at h)<;>first|cases h|(rename_i hv;cases hv)
 |any=>unfold eqA at h;split at h<;>(try split at h)<;>first|cases h|(rename_i hv;cases hv)
 |lst _ _ _=>obtain⟨A,cap,rfl,_⟩:=hx;exact .inr (.inl ⟨_,_,_,rfl⟩)
 |cp _ _=>unfold eqA at h;split at h<;>(try split at h)<;>first|cases h|(rename_i hv;cases hv)
theorem zg5 {x:AV} {X:Value} {xs:List AV} (h:ztN x= .ok xs) (hx:R1 m x X):∃cs,X= .agg cs/\Rl m xs cs.toList:=by
 unfold ztN at h;split at h
 ·cases h;obtain⟨l',hl,e⟩:=hx;exact⟨_,e,hl⟩
 ·cases h;cases hx;exact⟨_,rfl,Rl.sc _⟩
 ·cases h
theorem zjl {x:AV} {X v:Value} (h:zwS x= .ok v) (hx:R1 m x X):X=v:=by
 unfold zwS at h;split at h
 ·cases h;exact hx
 ·cases h
theorem zxv {d:TypeDesc} {t:TypeId} {X Y:Value} {b:Bool} (hd:P.underlying t=some d) (hq:eqD d X=true) (h:eqS X Y= .ok b) (D:Nat):(Op.equalIn (D+1) t X Y).run P w= .ok b w:=by
 unfold eqS at h;split at h
 ·split at h
  ·obtain⟨hk,h⟩:=zav h;cases h;have hk:=zhh hk;subst hk
   cases d<;>first|exact run_equalIn_int w D t _ _ _ _ hd|cases hq
  ·cases h
 ·split at h
  ·cases h
   cases d<;>first|exact run_equalIn_bool' w D t _ _ hd|cases hq
  ·cases h
 ·split at h
  ·cases h;rename_i a _ b
   cases d<;>first
    |(
      rw[run_equalIn_string w D t _ _ hd,ByteArray.toList_eq,ByteArray.toList_eq]
      by_cases h:a=b<;>simp[h];done)
    |cases hq
  ·cases h
 ·cases h
theorem zrx {eq:TypeId->AV->AV->R Bool} {D:Nat} (heq:∀{t:TypeId} {x y:AV} {X Y:Value} {b:Bool},eq t x y= .ok b->R1 m x X->R1 m y Y->(Op.equalIn D t X Y).run P w= .ok b w):
  ∀{l:List Field} {xs ys:List AV} {Xs Ys:List Value} {b:Bool},zx5 P eq l xs ys= .ok b->Rl m xs Xs->Rl m ys Ys->(Op.eqFields D Xs.toArray Ys.toArray l).run P w= .ok b w
 |[],_,_,_,_,_,h,_,_=>by cases h;rfl
 |f::l,xs,ys,Xs,Ys,b,h,hx,hy=>by
  unfold zx5 at h;split at h
  ·cases h
  ·rename_i hn;obtain⟨i,hi,h⟩:=zaf h;obtain⟨x,hpx,h⟩:=zaf h;obtain⟨y,hpy,h⟩:=zaf h;obtain⟨b1,hb1,h⟩:=zaf h;obtain⟨b2,hb2,h⟩:=zaf h;cases h;obtain⟨X,hX,hrX⟩:=zgU (w:=w) (zaX hi) hpx hx;obtain⟨Y,hY,hrY⟩:=zgU (w:=w) (zaX hi) hpy hy
   have hne:f.name≠ "_" :=λe=>by rw[e] at hn;cases hn
   unfold Op.eqFields;rw[ygX hne];simp only[y2X,hX,hY,yWX,heq hb1 hrX hrY];cases b1
   ·rfl
   ·exact zrx heq hb2 hx hy
theorem zus :∀{n:Nat} {t:TypeId} {x y:AV} {X Y:Value} {b:Bool} (D:Nat),n<=D->eqT P n t x y= .ok b->R1 m x X->R1 m y Y->(Op.equalIn D t X Y).run P w= .ok b w
 |0,_,_,_,_,_,_,_,_,h,_,_=>by cases h
 |n+1,t,x,y,X,Y,b,0,hD,h,_,_=>zo
 |n+1,t,x,y,X,Y,b,D+1,hD,h,hx,hy=>by
  unfold eqT at h;split at h
  ·rename_i fs hf;obtain⟨hs,h⟩:=zav h;obtain⟨xs,hxs,h⟩:=zaf h;obtain⟨ys,hys,h⟩:=zaf h;obtain⟨Xs,rfl,hX⟩:=zg5 hxs hx;obtain⟨Ys,rfl,hY⟩:=zg5 hys hy
   have hfo:P.fieldsOf t=fs:=by unfold Program.fieldsOf;rw[hf]
   rw[run_equalIn_struct w D t Xs Ys (by rw[hfo];exact hf) (by simpa using hs),hfo];have:=zrx (D:=D) (λh h1 h2=>zus D zo h h1 h2) h hX hY;simpa using this
  ·rename_i d hne hd;obtain⟨x',hx',h⟩:=zaf h;obtain⟨y',hy',h⟩:=zaf h;obtain⟨hq,h⟩:=zav h;rw[zjl hx' hx,zjl hy' hy];exact zxv hd hq h D
  ·cases h
theorem zxs {t:TypeId} {x y:AV} {X Y:Value} {b:Bool} (h:eqW P t x y= .ok b) (hx:R1 m x X) (hy:R1 m y Y):(Op.equal t X Y).run P w= .ok b w/\(∀op xo yo,(eqGuard op t xo yo X Y).run P w= .ok () w)/\((∃cs,X= .agg cs)∨(∃k a,X= .int k a)∨(∃a,X= .bool a)∨∃a,X= .string a):=by
 obtain⟨hg,h⟩:=zav h
 have hX:(∃cs,X= .agg cs)∨(∃k a,X= .int k a)∨(∃a,X= .bool a)∨∃a,X= .string a:=by
  unfold eqT at h;split at h
  ·obtain⟨hs,h⟩:=zav h;obtain⟨xs,hxs,h⟩:=zaf h;obtain⟨Xs,rfl,_⟩:=zg5 hxs hx;exact .inl ⟨_,rfl⟩
  ·obtain⟨x',hx',h⟩:=zaf h;obtain⟨y',hy',h⟩:=zaf h;obtain⟨hq,h⟩:=zav h;rw[zjl hx' hx];unfold eqS at h;split at h
   ·exact .inr (.inl ⟨_,_,rfl⟩)
   ·exact .inr (.inr (.inl ⟨_,rfl⟩))
   ·exact .inr (.inr (.inr ⟨_,rfl⟩))
   ·cases h
  ·cases h
 refine⟨zus 10000 zo h hx hy,λop xo yo=> ?_,hX⟩
 have hg':P.eqGuardType P.depth t=false:=by simpa using hg
 rcases hX with⟨cs,rfl⟩|⟨k,a,rfl⟩|⟨a,rfl⟩|⟨a,rfl⟩
 ·cases op<;>first|rfl|(cases Y<;>first|rfl|exact run_eqGuard_agg w _ t xo yo _ _ hg')
 ·cases op<;>rfl
 ·cases op<;>rfl
 ·cases op<;>rfl
theorem zwD (a b:ByteArray) {t:TypeId} {c:Bool} (h:(Op.equal t (.string a) (.string b)).run P w= .ok c w):(a.toList==b.toList)=c:=by
 unfold Op.equal Op.maxDepth Op.equalIn at h;simp only[y2X] at h;unfold underlying at h;simp only[y2X,run_program,yWX] at h
 cases hd:P.underlying t with
 |none=>rw[hd] at h;cases h
 |some d=>
  rw[hd] at h
  cases d<;>first
   |(
     have h2:(Result.ok (a==b) w:Result Bool)= .ok c w:=h;cases h2;rw[←beq_toListBytes]
     done)
   |cases h
theorem zrv {op:BinOp} {xt yt:TypeId} {x y:Operand} {ax ay:AV} {b:Bool} (ho:o.op= .binOp op xt x y yt) (hop:op= .eql∨op= .neq) (hn:∀k n,ax≠ .sc (.int k n)) (hb:eqO P xt ax ay= .ok b) (hX:R1 m ax (ρ x)) (hY:R1 m ay (ρ y)):
  (execOp ρ o).run P w= .ok (.value (.bool (if op= .eql then b else !b))) w:=by
 have both:(Op.equal xt (ρ x) (ρ y)).run P w= .ok b w/\(∀op xo yo,(eqGuard op xt xo yo (ρ x) (ρ y)).run P w= .ok () w)/\((∃a,ρ x= .pointer a)∨(∃a b c,ρ x= .slice a b c)∨(∃f a b,ρ x= .func f a b)∨(∃cs,ρ x= .agg cs)∨(∃a,ρ x= .bool a)∨∃a,ρ x= .string a):=by
  unfold eqO at hb;split at hb
  ·rename_i b' hb';cases hb;obtain⟨i,hi,he⟩:=zaf hb';obtain⟨h1,h2,h3⟩:=zxy (w:=w) (zaX hi) he hX hY;refine⟨h1,h2,?_⟩
   rcases ztm he hX with h|h|h
   ·exact .inl h
   ·exact .inr (.inl h)
   ·exact .inr (.inr (.inl h))
  ·obtain⟨h1,h2,h3⟩:=zxs (w:=w) hb hX hY;refine⟨h1,h2,?_⟩
   rcases h3 with h|⟨k,a,h⟩|h|h
   ·exact .inr (.inr (.inr (.inl h)))
   ·exfalso;obtain⟨hg,hb⟩:=zav hb;unfold eqT at hb;split at hb
    ·obtain⟨hs,hb⟩:=zav hb;obtain⟨xs,hxs,hb⟩:=zaf hb;obtain⟨Xs,e,_⟩:=zg5 hxs hX;rw[h] at e;cases e
    ·obtain⟨x',hx',hb⟩:=zaf hb;have e:=zjl hx' hX;unfold zwS at hx';split at hx'
     ·cases hx';rw[h] at e;exact hn k a (by rw[e])
     ·cases hx'
    ·cases hb
   ·exact .inr (.inr (.inr (.inr (.inl h))))
   ·exact .inr (.inr (.inr (.inr (.inr h))))
 obtain⟨h1,h2,h3⟩:=both
 have key:(∃s,ρ x= .string s)∨(binOp .eql xt (ρ x) (ρ y)=(do pure (.bool (←Op.equal xt (ρ x) (ρ y))))/\binOp .neq xt (ρ x) (ρ y)=(do pure (.bool (!(←Op.equal xt (ρ x) (ρ y)))))):=by
  rcases h3 with⟨a,e⟩|⟨a,b',c,e⟩|⟨f,a,b',e⟩|⟨a,e⟩|⟨a,e⟩|⟨a,e⟩
  ·rw[e];cases ρ y<;>exact .inr ⟨rfl,rfl⟩
  ·rw[e];cases ρ y<;>exact .inr ⟨rfl,rfl⟩
  ·rw[e];cases ρ y<;>exact .inr ⟨rfl,rfl⟩
  ·rw[e];cases ρ y<;>exact .inr ⟨rfl,rfl⟩
  ·rw[e];cases ρ y<;>exact .inr ⟨rfl,rfl⟩
  ·exact .inl ⟨a,e⟩
 rcases key with⟨s',e⟩|⟨k1,k2⟩
 ·--strings
  have hy:∃s2,ρ y= .string s2:=by
   rw[e] at h1
   cases hy:ρ y<;>first
    |exact⟨_,rfl⟩
    |(
      exfalso;rw[hy] at h1;unfold Op.equal Op.maxDepth Op.equalIn at h1;simp only[y2X] at h1;unfold underlying at h1;simp only[y2X,run_program,yWX] at h1
      cases hd:P.underlying xt with
      |none=>rw[hd] at h1;cases h1
      |some d=>rw[hd] at h1;cases d<;>cases h1)
  obtain⟨s2,e2⟩:=hy;have hc:(s'.toList==s2.toList)=b:=zwD (w:=w) (t:=xt) s' s2 (by rw[←e,←e2];exact h1);simp only[e,e2] at h2
  rcases hop with rfl|rfl
  ·simp[execOp,ho,e,e2,h2,binOp,Op.stringOp,hc]
  ·simp[execOp,ho,e,e2,h2,binOp,Op.stringOp,hc]
 ·rcases hop with rfl|rfl
  ·simp[execOp,ho,h2,k1,h1]
  ·simp[execOp,ho,h2,k2,h1]
theorem zwb {t:Tm} {op:BinOp} {xt yt:TypeId} {x y:Operand} (ho:o.op= .binOp op xt x y yt) (h:zr0 P t s o op xt (ev t x) (ev t y)= .ok nx) (hev:∀x,R1 m (ev t x) (ρ x)) (hok:Ok m s.h.get w):NxR P o ρ m w s nx:=by
 have hpl:zaR P t s o= .ok nx->NxR P o ρ m w s nx:=λh=>zeo h hev hok;have hX:=hev x;have hY:=hev y;revert h hX hY;generalize ev t x=ax;generalize ev t y=ay;intro h hX hY;unfold zr0 at h;split at h
 ·split at h
  ·split at h
   ·rename_i hk;have hk:=zhh hk;subst hk;exact zrb ho hX hY h hpl hok
   ·exact hpl h
  ·exact hpl h
 ·rename_i hni;unfold eqB at h;split at h
  ·split at h
   ·rename_i b hb;rw[zg4 h];exact NxR.value hok (zrv ho (.inl rfl) hni hb hX hY) rfl
   ·exact hpl h
  ·split at h
   ·rename_i b hb;rw[zg4 h];exact NxR.value hok (zrv ho (.inr rfl) hni hb hX hY) rfl
   ·exact hpl h
  ·exact hpl h
theorem zwz {t:Tm} {op:UnOp} {xt:TypeId} {x:Operand} (ho:o.op= .unOp op xt x) (h:unA P t s o op (ev t x)= .ok nx) (hev:∀x,R1 m (ev t x) (ρ x)) (hok:Ok m s.h.get w):NxR P o ρ m w s nx:=by
 have hpl:zaR P t s o= .ok nx->NxR P o ρ m w s nx:=λh=>zeo h hev hok;have hX:=hev x;revert h hX;generalize ev t x=ax;intro h hX;unfold unA at h;split at h
 ·rw[zg4 h];exact NxR.value hok (y:= .bool _) (by simp[execOp,ho,show ρ x=_ from hX,Op.unary]) rfl
 ·rename_i k a;unfold zg7 at h;split at h
  ·split at h
   ·rename_i hs;rw[zjZ] at h;cases h;refine NxR.value hok (y:= .int .i64 (IntKind.i64.wrap (0-a))) (by simp[execOp,ho,show ρ x=_ from hX,Op.unary,Op.intArith]) ?_;show Value.int _ _=_;rw[zkP hs]
   ·exact hpl h
  ·exact hpl h
 ·exact hpl h
theorem zsR {t:Tm} {c a b:Operand} (ho:o.op= .pick c a b) (h:zsS s (ev t c) (ev t a) (ev t b)= .ok nx) (hev:∀x,R1 m (ev t x) (ρ x)) (hok:Ok m s.h.get w):NxR P o ρ m w s nx:=by
 have hC:=hev c;revert h hC;generalize ev t c=ac;intro h hC;unfold zsS at h;split at h
 ·rename_i k;cases h;have hC:ρ c= .bool k:=hC;cases k
  ·exact NxR.value hok (y:=ρ b) (by simp[execOp,ho,hC,asBool]) (hev b)
  ·exact NxR.value hok (y:=ρ a) (by simp[execOp,ho,hC,asBool]) (hev a)
 ·cases h
theorem zk6 {t:Tm} {x:Operand} (ho:o.op= .nilCheck x) (h:zhD s (ev t x)= .ok nx) (hev:∀x,R1 m (ev t x) (ρ x)) (hok:Ok m s.h.get w):NxR P o ρ m w s nx:=by
 have hX:=hev x;revert h hX;generalize ev t x=ax;intro h hX;unfold zhD at h;split at h
 ·cases h;obtain⟨k,o',c,hm,e⟩:=id hX;exact NxR.value hok (y:=ρ x) (by simp[execOp,ho,e]) hX
 ·cases h;obtain⟨k,o',vs,e,hm⟩:=id hX;exact NxR.value hok (y:=ρ x) (by simp[execOp,ho,e]) hX
 ·cases h;obtain⟨v',hv,e⟩:=id hX;exact NxR.value hok (y:=ρ x) (by simp[execOp,ho,e]) hX
 ·cases h;obtain⟨a',b',ha,hb,e⟩:=id hX;exact NxR.value hok (y:=ρ x) (by simp[execOp,ho,e]) hX
 ·cases h;have e:ρ x=_:=hX;exact NxR.value hok (y:=ρ x) (by simp[execOp,ho,e]) hX
 ·cases h;have e:ρ x=_:=hX;exact NxR.value hok (y:=ρ x) (by simp[execOp,ho,e]) hX
 ·cases h
theorem zqq {t:TypeId} {x:AV} {X:Value} (h:zqr P s t x= .ok nx) (hx:R1 m x X) (hok:Ok m s.h.get w):Nv P (Instr.range t X) m w s nx:=by
 unfold zqr at h;split at h
 ·rename_i b;obtain⟨d,hd,h⟩:=zaf h;split at h
  ·rename_i hds;cases h;cases hx
   have hu:∀w,(underlying t).run P w= .ok .string w:=λw=>by rw[(zaX hd).u,hds]
   refine⟨_,_,rfl,λhf=>⟨.pointer (some ⟨w.heap.size,0,none⟩),w.alloc (.stringIter b 0),upd m s.n (w.heap.size,0,0),?_,zj3 hok hf 0 0 _ _ ⟨w.heap.size,zbb _ _ _,heap_alloc_new w _⟩,⟨_,_,_,zbb _ _ _,rfl⟩⟩⟩;simp[Instr.range,hu,newObj,Sem.run]
  ·cases h
 ·cases h
theorem zs3 {x:AV} {X:Value} {isS:Bool} {ty:TypeId} (h:zvq s x isS= .ok nx) (hx:R1 m x X) (hok:Ok m s.h.get w):Nv P (Instr.next X isS ty) m w s nx:=by
 unfold zvq at h;split at h
 ·rename_i b;obtain⟨ob,hob,h'⟩:=zaf h;clear h;have h:=h';clear h'
  replace hob:=zcf hob
  split at h
  ·rename_i bs pos;obtain⟨hs,h⟩:=zav h;subst hs;obtain⟨k,hm,hw⟩:=hok.has b _ hob;obtain⟨k',o',c',hm',rfl⟩:=hx;rw[hm] at hm';cases hm';split at h
   ·rename_i hlt;have hlt:=zby hlt;cases h;refine⟨_,_,rfl,λhf=>⟨.tuple #[.bool true,goInt pos, .int .i32 (Utf8.decode bs pos).1],{w with heap:=w.heap.setIfInBounds k (.stringIter bs (pos+(Utf8.decode bs pos).2))},m,?_,?_,rfl⟩⟩
    ·simp[Instr.next,getObj,setObj,Sem.run,hw,hlt]
    ·have hkl:=(yHY.1 hw).1;refine zg0 (z:=b) (y:=b) (kz:=k) hok (yhX _) (λ_ _=>rfl) rfl (λx h1 h2=>by have:s.n<=x:=h1;have:x<s.n:=h2;omega) (λb' o' hb hne=> ?_) (λo' hb=> ?_) (by simp[blk,hm]) (.inl ⟨_,hob,by simp[blk,hm]⟩) rfl rfl rfl (by simp) (λk' _ hne=>by simp[Array.getElem?_setIfInBounds_ne (Ne.symm hne)])
     ·have:(s.h.put b (some _)).get b'=some o':=hb;rw[T.get_put,yfX hne] at this;exact⟨this,hne⟩
     ·have:(s.h.put b (some _)).get b=some o':=hb;rw[T.get_put,ygX rfl] at this;cases this;exact⟨k,hm,by simp[hkl]⟩
   ·rename_i hlt
    have hge:¬pos<bs.size:=by
     intro h';rw[show Nat.blt pos bs.size=true from by rw[Nat.blt_eq];exact h'] at hlt;cases hlt
    cases h;exact Nv.pure hok (y:= .tuple #[.bool false]) (by simp[Instr.next,getObj,Sem.run,hw,hge]) rfl
  ·cases h
 ·cases h
theorem zly {f:FuncId} {args:List AV} (h:zgu P f args= .ok nx):nx= .enter f args/\∀args' w,(callFunc f args').run P w= .ok (.enter f args') w:=by
 unfold zgu at h;split at h
 ·cases h
 ·rename_i fn hfn;split at h
  ·cases h
  ·rename_i hname;split at h
   ·cases h
   ·rename_i c hb;cases h;refine⟨rfl,λargs' w=> ?_⟩;have hn:(fn.name== "runtime.NumGoroutine")=false:=hname
    have hn':¬fn.name= "runtime.NumGoroutine" :=by simpa using hn
    simp[callFunc,program,Sem.run,hfn,hn',hb]
theorem ztG {c:Call} {f:Operand} {x:AV} {args:List AV} {args':List Value} (ho:o.op= .call c) (hc:c.callee= .value f) (h:zv6 P x args= .ok nx) (hx:R1 m x (ρ f)) (ha:Rl m args args') (hargs:(c.args.map ρ).toList=args'):NxR P o ρ m w s nx:=by
 have key:∀{g:FuncId} {fi ca:List AV} {fi' ca':List Value},Rl m fi fi'->Rl m ca ca'->ρ f= .func (.func g) fi'.toArray ca'.toArray->zgu P g (fi++(args++ca))= .ok nx->NxR P o ρ m w s nx:=by
  intro g fi ca fi' ca' h1 h2 hf h;obtain⟨rfl,hrun⟩:=zly h;refine⟨fi'++(args'++ca'),?_,h1.append (ha.append h2)⟩
  have e:fi'.toArray++c.args.map ρ++ca'.toArray=(fi'++(args'++ca')).toArray:=by
   apply ynY.1;rw[Array.toList_append,Array.toList_append,hargs];simp
  simp only[execOp,ho,resolve,hc,hf,Deferred.ofValue,y2X,y6Y,yWX,invoke];rw[e];exact hrun _ w
 unfold zv6 at h;split at h
 ·rename_i g fi ca;have e:ρ f=_:=hx;exact key (Rl.sc fi.toList) (Rl.sc ca.toList) (by simpa using e) h
 ·rename_i g fi ca;obtain⟨fi',ca',h1,h2,e⟩:=hx;exact key h1 h2 e h
 ·cases h
theorem ziL {c:Call} {r:Operand} {name:String} {ty:TypeId} {v:AV} {v':Value} {args:List AV} {args':List Value} (ho:o.op= .call c) (hc:c.callee= .invoke r name) (h:zmE P ty v name args= .ok nx) (hr:ρ r= .iface ty v') (hv:R1 m v v') (ha:Rl m args args') (hargs:(c.args.map ρ).toList=args'):NxR P o ρ m w s nx:=by
 obtain⟨f,hf,h⟩:=zaf h;obtain⟨i,hi,h⟩:=zaf h;obtain⟨inf,hinf,hf⟩:=zaf hf;obtain⟨mt,hmt,hf⟩:=zaf hf;obtain⟨hp,hf⟩:=zav hf;have hinf:=zcf hinf;have hmt:=zcf hmt;have hf:=zcf hf;have hu:=(zaX hi).u
 have hti:∀w,(typeInfo ty).run P w= .ok inf w:=λw=>by simp[typeInfo,program,Sem.run,hinf]
 have hpe:mt.path.toList=[]:=by
  have:mt.path= #[]:=by simpa using hp
  rw[this]
 have hargs2:(c.args.map ρ)=args'.toArray:=by
  apply ynY.1;rw[hargs]
 have key:(∀w,(receiverAt ty (.val v') f.2 (if mt.path.isEmpty then some ((name.splitOn ".").getLastD name) else none)).run P w= .ok v' w)->zgu P f.1 (v::args)= .ok nx->NxR P o ρ m w s nx:=by
  intro hrec h;obtain⟨rfl,hrun⟩:=zly h;refine⟨v'::args',?_,⟨_,_,rfl,hv,ha⟩⟩
  have hm:∀w,(method (P.types.size+Made.depth) ty v' name).run P w= .ok (f.1,v') w:=λw=>by
   have:P.types.size+Made.depth=(P.types.size+99)+1:=rfl;rw[this];unfold method;simp only[y2X,hti,yWX,hmt,hpe,follow,y6Y,hf,hrec]
  have hcm:∀w,(callMethod (.iface ty v') name args'.toArray).run P w= .ok (.enter f.1 (v'::args').toArray) w:=λw=>by
   unfold callMethod;simp only[y2X,program,Sem.run,yWX,hm];rw[hrun];simp
  simp only[execOp,ho,resolve,hc,hr,y2X,y6Y,yWX,invoke,hargs2]
  have e1:(#[Value.iface ty v']++args'.toArray)[0]? =some (.iface ty v'):=by simp
  have e2:(#[Value.iface ty v']++args'.toArray).extract 1 (#[Value.iface ty v']++args'.toArray).size=args'.toArray:=by
   apply ynY.1;simp[yQZ,ypZ]
  rw[e1,e2];exact hcm w
 split at h
 ·rename_i e hd;obtain⟨hf2,h⟩:=zav h;refine key (λw=> ?_) h;unfold receiverAt;rw[y2X,hu,hd,hf2];rfl
 ·rename_i hnp;obtain⟨hf2,h⟩:=zav h
  have hf2:f.2=false:=by simpa using hf2
  refine key (λw=> ?_) h;unfold receiverAt;rw[y2X,hu,hf2];simp only[yWX]
  cases hd:i.d<;>first
   |rfl
   |exact absurd hd (hnp _)
end
end Go.Ex
namespace Go.Ex
open Go
section
variable {P : Program} {m m' : Mp} {s s' : St} {w w' : World} {nx : Nx} {S : Sem Value} {o : Oper} {ρ : Operand -> Value}
theorem Rl.two {x y:AV} {ys:List Value} (h:Rl m [x,y] ys):∃X Y,ys=[X,Y]/\R1 m x X/\R1 m y Y:=by
 obtain⟨X,l,rfl,h1,Y,l',rfl,h2,rfl⟩:=h;exact⟨X,Y,rfl,h1,h2⟩
theorem Rl.one {x:AV} {ys:List Value} (h:Rl m [x] ys):∃X,ys=[X]/\R1 m x X:=by
 obtain⟨X,l,rfl,h1,rfl⟩:=h;exact⟨X,rfl,h1⟩
theorem zmW {t:Tm} {c:Call} {b:Builtin} (ho:o.op= .call c) (hc:c.callee= .builtin b) (h:zeA P s b c.argTypes.toList (evs t c.args.toList)= .ok nx) (hev:∀x,R1 m (ev t x) (ρ x)) (hok:Ok m s.h.get w):NxR P o ρ m w s nx:=by
 have hR:=zmN hev c.args.toList;rw[←Array.toList_map] at hR;revert h hR;generalize evs t c.args.toList=args;intro h hR
 have hat:∀l:List TypeId,c.argTypes.toList=l->c.argTypes=l.toArray:=λl e=>by rw[←e]
 have har:∀l:List Value,(c.args.map ρ).toList=l->c.args.map ρ=l.toArray:=λl e=>by rw[←e]
 unfold zeA at h;split at h
 ·split at h
  ·rename_i tx ty' x y hts;obtain⟨v,s1,hr,rfl⟩:=zmj h;obtain⟨X,Y,e,hx,hy⟩:=hR.two;intro hf;obtain⟨q,w',m',hrun,hg,hq⟩:=zpm (ty:=o.type) hr hx hy hok hf;refine⟨q,w',m', .inl ?_,hg,hq⟩;simp only[execOp,ho,resolve,hc,y2X,y6Y,yWX,invoke,builtin,hat _ hts,har _ e,hrun]
  ·cases h
 ·split at h
  ·rename_i tx ty' x y hts;obtain⟨v,s1,hr,rfl⟩:=zmj h;obtain⟨X,Y,e,hx,hy⟩:=hR.two;intro hf;obtain⟨q,w',m',hrun,hg,hq⟩:=ztw (ty:=o.type) (ty':=ty') hr hx hy hok;refine⟨q,w',m', .inl ?_,hg,hq⟩;simp only[execOp,ho,resolve,hc,y2X,y6Y,yWX,invoke,builtin,hat _ hts,har _ e,hrun]
  ·cases h
 ·split at h
  ·rename_i tx x hts;obtain⟨X,e,hx⟩:=hR.one;refine NxR.of (zvF (ty:=o.type) h hx hok) ?_;simp only[execOp,ho,resolve,hc,pure_bind,invoke,builtin,hat _ hts,har _ e]
  ·cases h
 ·split at h
  ·rename_i tx x hts;obtain⟨X,e,hx⟩:=hR.one;refine NxR.of (zv5 (ty:=o.type) h hx hok) ?_;simp only[execOp,ho,resolve,hc,pure_bind,invoke,builtin,hat _ hts,har _ e]
  ·cases h
 ·split at h
  ·rename_i tx x hts;obtain⟨z,hz,h⟩:=zaf h;obtain⟨s1,hs1,h⟩:=zaf h;cases h;obtain⟨X,e,hx⟩:=hR.one;intro hf;obtain⟨q,w',m',hrun,hg,hq⟩:=zrR (ty:=o.type) hz hs1 hx hok;refine⟨q,w',m', .inl ?_,hg,hq⟩;simp only[execOp,ho,resolve,hc,y2X,y6Y,yWX,invoke,builtin,hat _ hts,har _ e,hrun]
  ·cases h
 ·split at h
  ·rename_i tx ty' x y hts;obtain⟨X,Y,e,hx,hy⟩:=hR.two;refine NxR.of (zvt (ts:=c.argTypes) (ty:=o.type) h hx hy hok) ?_;simp only[execOp,ho,resolve,hc,pure_bind,invoke,builtin,har _ e]
  ·cases h
 ·split at h
  ·rename_i tx ty' x y hts;obtain⟨X,Y,e,hx,hy⟩:=hR.two;refine NxR.of (zvv (ts:=c.argTypes) (ty:=o.type) h hx hy hok) ?_;simp only[execOp,ho,resolve,hc,pure_bind,invoke,builtin,har _ e]
  ·cases h
 ·cases h
theorem ztH {t:Tm} {c:Call} (ho:o.op= .call c) (h:zij P t s o c= .ok nx) (hev:∀x,R1 m (ev t x) (ρ x)) (hok:Ok m s.h.get w):NxR P o ρ m w s nx:=by
 unfold zij at h;split at h
 ·rename_i f hc;exact ztG ho hc h (hev f) (zmN hev _) (by simp)
 ·rename_i b hc;split at h
  ·rename_i r hr;cases h;exact zmW ho hc hr hev hok
  ·exact zeo h hev hok
 ·rename_i r name hc;have hr:=hev r;split at h
  ·rename_i ty v hrr;rw[hrr] at hr;obtain⟨v',hv,e⟩:=hr;exact ziL ho hc h e hv (zmN hev _) (by simp)
  ·rename_i ty v hrr;rw[hrr] at hr;exact ziL ho hc h hr rfl (zmN hev _) (by simp)
  ·cases h
theorem ztC {t:Tm} {src dst:TypeId} {x:Operand} (ho:o.op= .convert src dst x) (h:zmT P t s o src dst (ev t x)= .ok nx) (hev:∀x,R1 m (ev t x) (ρ x)) (hok:Ok m s.h.get w):NxR P o ρ m w s nx:=by
 obtain⟨i,hi,h⟩:=zaf h;obtain⟨j,hj,h⟩:=zaf h;split at h
 ·rename_i r hr;cases h;exact NxR.of (ztz (zaX hi) (zaX hj) hr (hev x) hok) (by simp only[execOp,ho])
 ·exact zeo h hev hok
theorem zur {t:Tm} (hev:∀x,R1 m (ev t x) (ρ x)) (ps:Array (Nat×Operand)):Rp m (evp t ps.toList) (ps.map λ(i,x)=>(i,ρ x)).toList:=by
 rw[Array.toList_map];exact zxr hev ps.toList
theorem zeq {t:Tm} (h:za7 P t s o= .ok nx) (hev:∀x,R1 m (ev t x) (ρ x)) (hok:Ok m s.h.get w):NxR P o ρ m w s nx:=by
 unfold za7 comp at h
 cases hop:o.op with
 |move x=>
  rw[hop] at h;cases h;exact NxR.value hok (y:=ρ x) (by simp[execOp,hop]) (hev x)
 |assign x=>
  rw[hop] at h;cases h;exact NxR.value hok (y:=ρ x) (by simp[execOp,hop]) (hev x)
 |pick c a b=>rw[hop] at h;exact zsR hop h hev hok
 |alloc e=>rw[hop] at h;exact NxR.of (zr9 h hok) (by simp only[execOp,hop])
 |box e x=>rw[hop] at h;exact NxR.of (zv9 h (hev x) hok) (by simp only[execOp,hop])
 |build ty ps=>rw[hop] at h;exact NxR.of (zrU h (zur hev ps) hok) (by simp only[execOp,hop])
 |buildSlice ty n ps=>rw[hop] at h;exact NxR.of (zik h (zur hev ps) hok) (by simp only[execOp,hop])
 |load ty a=>rw[hop] at h;exact NxR.of (ztb h (hev a) hok) (by simp only[execOp,hop])
 |store ty a x=>
  rw[hop] at h;obtain⟨s',rfl,w',hr,hg⟩:=zpO (P:=P) h (hev a) (hev x) hok;intro _;exact⟨undef,w',m, .inr ⟨by simp[execOp,hop,hr],rfl⟩,hg,rfl⟩
 |nilCheck x=>rw[hop] at h;exact zk6 hop h hev hok
 |binOp op xt x y yt=>rw[hop] at h;exact zwb hop h hev hok
 |unOp op xt x=>rw[hop] at h;exact zwz hop h hev hok
 |convert src dst x=>rw[hop] at h;exact ztC hop h hev hok
 |makeInterface ty x=>rw[hop] at h;exact NxR.of (zfY h (hev x) hok) (by simp only[execOp,hop])
 |makeFunc f first captured=>
  rw[hop] at h;cases h;refine NxR.value hok (y:= .func f (first.map ρ) (captured.map ρ)) (by simp[execOp,hop,Instr.makeFunc]) ⟨_,_,zmN hev _,zmN hev _,?_⟩
  congr 1
  ·apply ynY.1;simp
  ·apply ynY.1;simp
 |makeSlice ty l c=>rw[hop] at h;exact NxR.of (zjL h (hev l) (hev c) hok) (by simp only[execOp,hop])
 |slice ty x lo hi mx=>
  rw[hop] at h;obtain⟨v,s1,hr,rfl⟩:=zmj h;intro hf;obtain⟨q,w',m',hrun,hg,hq⟩:=zp1 hr (hev x) (zvR hev lo) (zvR hev hi) (zvR hev mx) hok hf;exact⟨q,w',m', .inl (by simp only[execOp,hop,y2X,hrun,yWX,y6Y]),hg,hq⟩
 |fieldAddr sty x f=>rw[hop] at h;exact NxR.of (zkc h (hev x) hok) (by simp only[execOp,hop])
 |field ty x f=>rw[hop] at h;exact NxR.of (zrp h (hev x) hok) (by simp only[execOp,hop])
 |indexAddr ty x i=>rw[hop] at h;exact NxR.of (zj0 h (hev x) (hev i) hok) (by simp only[execOp,hop])
 |index ty x i=>rw[hop] at h;exact NxR.of (zrc h (hev x) (hev i) hok) (by simp only[execOp,hop])
 |range ty x=>rw[hop] at h;exact NxR.of (zqq h (hev x) hok) (by simp only[execOp,hop])
 |next it isS=>rw[hop] at h;exact NxR.of (zs3 (ty:=o.type) h (hev it) hok) (by simp only[execOp,hop])
 |typeAssert x xt asserted ok=>rw[hop] at h;exact NxR.of (zid (xt:=xt) h (hev x) hok) (by simp only[execOp,hop])
 |extract x i=>rw[hop] at h;exact NxR.of (zmM h (hev x) hok) (by simp only[execOp,hop])
 |call c=>rw[hop] at h;exact ztH hop h hev hok
 |_=>rw[hop] at h;cases h
end
end Go.Ex
abbrev y5X:=@Go.Ex.AO.R_blk
abbrev ydY:=@Go.Ex.T.get_put
abbrev yIY:=@Go.Ex.Nv.pure
abbrev y0Y:=@Go.Ex.NxR.value
abbrev yAZ:=@Go.Ex.T.get_f
abbrev yMZ:=@Go.Ex.AO.R_keep
abbrev yPZ:=@Go.Ex.NxR.of
abbrev y1Z:=@Go.Ex.Rs.pure
