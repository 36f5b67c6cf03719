/- Own text, part Rprt 5: walks of the package acl and of its reference, and the plain laws that they lean on; no statement of the seat is here. -/
import Derived.Test.YtgcjejajljhnaaaGreatDoorRprt1
import Derived.Lib.Hide
import Derived.Test.YtgcjejajljhnaaaGreatDoorRprt4
import Derived.Test.YtgcjejajljhnaaaGreatDoorChecked
set_option linter.all false
namespace Ck
def goE (E:Nat->Int):Nat->Int
 |0=>0
 |k+1=>if goE E k=0 then E k else goE E k
theorem zj5 (E:Nat->Int) {k:Nat} (h:goE E k=0) (hE:E k≠0):∀n,k<n->goE E n=E k
 |0,hn=>zo
 |n+1,hn=>by
  show(if goE E n=0 then E n else goE E n)=E k;by_cases hkn:k=n
  ·subst hkn;rw[ygX h]
  ·rw[zj5 E h hE n zo,yfX hE]
theorem zj6 (E:Nat->Int) {k:Nat} (h:goE E k=0):goE E (k+1)=E k:=ygX h
theorem zfz (E:Nat->Int):∀n,(∀k,k<n->E k=0)->goE E n=0
 |0,_=>rfl
 |n+1,h=>by rw[zj6 E (zfz E n λk hk=>h k zo)];exact h n zo
theorem zd5 (E:Nat->Int):∀n,goE E n=0->∀k,k<n->E k=0
 |0,_,k,hk=>zo
 |n+1,h,k,hk=>by
  by_cases h0:goE E n=0
  ·rw[zj6 E h0] at h;by_cases hkn:k=n
   ·rw[hkn];exact h
   ·exact zd5 E n h0 k zo
  ·exact absurd h (by show(if goE E n=0 then E n else goE E n)≠0;rw[yfX h0];exact h0)
def goI (E:Nat->Int):Nat->Int
 |0=>0
 |k+1=>if goE E k=0 then(if E k=0 then 0 else k) else goI E k
theorem zj4 (E:Nat->Int) {k:Nat} (h:goE E k=0) (hE:E k≠0):∀n,k<n->goI E n=k
 |0,hn=>zo
 |n+1,hn=>by
  show(if goE E n=0 then(if E n=0 then 0 else(n:Int)) else goI E n)=k;by_cases hkn:k=n
  ·subst hkn;rw[ygX h,yfX hE]
  ·rw[zj5 E h hE n zo,yfX hE];exact zj4 E h hE n zo
theorem zn0 (E:Nat->Int):∀n,goE E n=0->goI E n=0
 |0,_=>rfl
 |n+1,h=>by
  show(if goE E n=0 then(if E n=0 then 0 else(n:Int)) else goI E n)=0;by_cases h0:goE E n=0
  ·rw[zj6 E h0] at h;rw[ygX h0,ygX h]
  ·exact absurd h (by show(if goE E n=0 then E n else goE E n)≠0;rw[yfX h0];exact h0)
def it {S:Type} (f:S->Nat->S) (s:S):Nat->S
 |0=>s
 |k+1=>f (it f s k) k
def wi (n lo hi:Int):Bool:=decide (lo<=n)&&decide (n<=hi)
def first :List Int->Int
 |[]=>0
 |e::l=>if e=0 then first l else e
structure Run where
 s:Int
 l:Int
 deriving DecidableEq
structure Ref where
 r:Int
 q:Int
 deriving DecidableEq
structure Nm where
 d:Ref
 n:List UInt8
 deriving DecidableEq
structure En where
 n:List UInt8
 f:Ref
 z:Int
 deriving DecidableEq
structure Sm where
 r:List Run
 z:Int
 deriving DecidableEq
structure Rc where
 u:Bool
 q:Int
 k:Int
 b:Ref
 ln:Int
 ds:Int
 ns:List Nm
 ss:List Sm
 es:List En
 deriving DecidableEq
structure Pt where
 c:Int
 al:List Run
 rs:List Rc
 ds:List Int
 mp:List UInt8
 deriving DecidableEq
structure Fd where
 k:Int
 r:Int
 i:Int
 deriving DecidableEq
def Ref.o :Ref:=⟨0,0⟩
def Run.o :Run:=⟨0,0⟩
def Nm.o :Nm:=⟨Ref.o,[]⟩
def En.o :En:=⟨[],Ref.o,0⟩
def Sm.o :Sm:=⟨[],0⟩
def Rc.o :Rc:=⟨false,0,0,Ref.o,0,0,[],[],[]⟩
def Fd.o :Fd:=⟨0,0,0⟩
def at_ {α:Type} (o:α) (l:List α) (i:Nat):α:=l[i]?.getD o
theorem zaS {α:Type} (o:α) (l:List α) (i:Nat) (h:i<l.length):at_ o l i=l[i]:=by unfold at_;rw[ysX h];rfl
theorem at_mem {α:Type} (o:α) (l:List α) (i:Nat) (h:i<l.length):at_ o l i∈l:=by rw[zaS o l i h];exact List.getElem_mem h
theorem zxJ {α β:Type} (f:α->β) (o:α) (o':β) (l:List α) (i:Nat) (h:i<l.length):at_ o' (l.map f) i=f (at_ o l i):=by
 rw[zaS o l i h,zaS o' _ i (by rw[List.length_map];exact h),List.getElem_map]
theorem zi9 {α:Type} (o:α) (l:List α) (i:Nat) (h:i<l.length):l.take (i+1)=l.take i++[at_ o l i]:=by rw[zaS o l i h,List.take_succ_eq_append_getElem h]
theorem drop_at {α:Type} (o:α) (l:List α) (i:Nat) (h:i<l.length):l.drop i=at_ o l i::l.drop (i+1):=by rw[zaS o l i h,yqZ h]
theorem zaj {α:Type} (o:α) (l:List α) (i:Nat) (x:α) (h:i<l.length):at_ o (l.set i x) i=x:=by
 rw[zaS o _ i (by rw[yoX];exact h),List.getElem_set_self]
theorem zap {α:Type} (o:α) (l:List α) (i j:Nat) (x:α) (h:i≠j):at_ o (l.set i x) j=at_ o l j:=by
 unfold at_;rw[List.getElem?_set_ne h]
def zaJ (r:Ref):Int:=if wi r.r 0 95&&wi r.q 1 65535 then 0 else 2
def num (n:Int):Bool:=wi n 0 2147483647
def zaQ (c:UInt8):Bool:=decide (32<=c.toNat)&&decide (c.toNat<=126)&& !([34,42,47,58,60,62,63,92,124].contains c)
def zdr (s:List UInt8):Bool:=s !=[]&&decide (s.length<=32)&&s.all zaQ&&s !=[46,46]&&s.getLast? !=some 32&&s.getLast? !=some 46
def zau (s:List UInt8):Int:=if 32<s.length then 8 else if zdr s then 0 else 4
def zdc (x:Nm):Int:=if zaJ x.d=0 then zau x.n else zaJ x.d
def zc5 (x:En):Int:=if zau x.n=0 then(if zaJ x.f=0 then(if num x.z then 0 else 2) else zaJ x.f) else zau x.n
def za1 (r:Run):Bool:= !(wi r.s (-1) 2147483647)|| !(wi r.l 1 512)
def zcd (x:Sm):Int:=if 24<x.r.length then 8 else if !(x.r.any za1)&&num x.z then 0 else 2
def zdI (d:Int):Nat:=if d=5 then 700 else 200
def zdH (x:Rc):Int:=goE (λi=>zdc (at_ Nm.o x.ns i)) x.ns.length
def zcZ (x:Rc):Int:=goE (λi=>zcd (at_ Sm.o x.ss i)) x.ss.length
def zdg (x:Rc):Int:=goE (λi=>zc5 (at_ En.o x.es i)) x.es.length
def Rc.parts (x:Rc):Nat:=x.ns.length+x.ss.length+x.es.length
def zd4 (i:Int) (x:Rc):Int:=
 if !(wi x.q 1 65535)|| !(wi x.k 0 3)|| !(num x.ln)|| !(num x.ds) then 2
 else if !x.u&&(x.b !=Ref.o||decide (0<x.ln+x.ds+x.parts+x.k)) then 3
 else if(if x.k=3 then zaJ x.b else if x.b=Ref.o then 0 else 2)≠0 then 2
 else if 8<x.ns.length∨8<x.ss.length∨zdI i<x.es.length then 8
 else if(0<x.es.length/\x.k≠0)∨(0<x.ns.length/\(x.k=3∨i<16)) then 3
 else 0
def zbx (i:Int) (x:Rc):Int:=first [zd4 i x,zdH x,zcZ x,zdg x]
def zb1 (c:Int) (r:Run):Int:=if wi r.s 0 (c-1)&&wi r.l 1 (c-r.s) then 0 else 2
def zbq (l:List Int) (i:Nat):Int:=if wi (at_ 0 l i) 1 2147483647 then(if 0<i/\at_ 0 l i<=at_ 0 l (i-1) then 9 else 0) else 2
def zbs (s:List UInt8) (c:Int):Int:=
 if wi c 0 4096 then(if s.length=((c+7)/8).toNat then(if c%8=0∨(s.getLast?.getD 0).toNat/2^(c%8).toNat=0 then 0 else 3) else 10) else 2
def zbG (v:Pt):Int:=
 first [if wi v.c 64 512 then 0 else 2,if 24<v.al.length∨96<v.rs.length∨64<v.ds.length then 8 else 0,goE (λi=>zb1 v.c (at_ Run.o v.al i)) v.al.length,goE (zbq v.ds) v.ds.length,
  if v.ds.length=0 then 17 else 0,zbs v.mp v.c]
def za9 (v:Pt):Int:=if v.rs.length<=5∨(at_ Rc.o v.rs 5).u=false∨(at_ Rc.o v.rs 5).k≠0 then 6 else 0
def zhl (v:Pt):Int:=goE (λi=>zbx i (at_ Rc.o v.rs i)) v.rs.length
def zbH (v:Pt):Int:=first [zbG v,za9 v,zhl v]
def zhw (v:Pt):Int:=if zbG v≠0 then 0 else if za9 v≠0 then 5 else goI (λi=>zbx i (at_ Rc.o v.rs i)) v.rs.length
def upB (c:UInt8):UInt8:=if 97<=c.toNat/\c.toNat<=122 then c-32 else c
def fold (s:List UInt8):List UInt8:=if zau s=0 then s.map upB else []
def same (a b:List UInt8):Bool:=fold a==fold b
def own (x:Rc):Bool:=x.u&&x.k !=3
def dir (x:Rc):Bool:=x.u&&x.k==0
def rc (v:Pt) (i:Int):Rc:=at_ Rc.o v.rs i.toNat
def right (v:Pt) (r:Ref):Bool:=wi r.r 0 ((v.rs.length:Int)-1)&&own (rc v r.r)&&(rc v r.r).q==r.q
def sizeOf (x:Rc):Int:=if x.k=1/\0<x.ss.length then(at_ Sm.o x.ss 0).z else 0
structure Rp where
 v:Pt
 fd:List Fd
 fl:List Int
 deriving DecidableEq
def Rp.note (p:Rp) (k r i:Int):Rp:={p with fd:=p.fd++[⟨k,r,i⟩],fl:=p.fl++[-1]}
def Rp.setR (p:Rp) (i:Nat) (x:Rc):Rp:={p with v:={p.v with rs:=p.v.rs.set i x}}
def Rp.rc (p:Rp) (i:Int):Rc:=Ck.rc p.v i
def Rp.ref (p:Rp) (i:Int):Ref:=⟨i,(p.rc i).q⟩
def zar (p:Rp) (i:Nat):Rp:=
 let x:=p.rc i
 if x.u&&x.k==3&& !right p.v x.b then(p.note 0 i 0).setR i {Rc.o with q:=x.q%65535+1} else p
def zax (p:Rp):Rp:=it zar p p.v.rs.length
def fill (t:List Bool) (s:Int):Nat->List Bool
 |0=>t
 |k+1=>(fill t s k).set (s+k).toNat true
def taken (v:Pt):List Bool:=it (λt i=>fill t (at_ Run.o v.al i).s (at_ Run.o v.al i).l.toNat) (List.replicate v.c.toNat false) v.al.length
def zc9 (t:List Bool) (s:Int) (k:Nat):Nat->List Bool×Option Nat
 |0=>(t,none)
 |n+1=>if s+k<t.length/\at_ false t (s+k).toNat=false then zc9 (t.set (s+k).toNat true) s (k+1) n else(t,some k)
def zcy (t:List Bool) (acc:List Run):List Run->List Bool×Option (List Run)
 |[]=>(t,none)
 |r::l=>
  if r.s= -1 then zcy t (acc++[r]) l
  else match zc9 t r.s 0 r.l.toNat with
   |(t',none)=>zcy t' (acc++[r]) l
   |(t',some k)=>(t',some (acc++if 0<k then [⟨r.s,k⟩] else []))
def cut (l:List Run) (t:List Bool):List Bool×Option (List Run):=zcy t [] l
def za0 (l:List Run):Int:=it (λn i=>n+(at_ Run.o l i).l) 0 l.length
def zaq (i:Nat) (s:Rp×List Bool) (k:Nat):Rp×List Bool:=
 let x:=s.1.rc i
 let y:=at_ Sm.o x.ss k
 match cut y.r s.2 with
 |(t,none)=>(s.1,t)
 |(t,some l)=>((s.1.note 1 i k).setR i {x with ss:=x.ss.set k ⟨l,min y.z (za0 l*256)⟩},t)
def zac (s:Rp×List Bool) (i:Nat):Rp×List Bool:=
 if(s.1.rc i).u then it (zaq i) s (s.1.rc i).ss.length else s
def badRuns (p:Rp):Rp:=(it zac (p,taken p.v) p.v.rs.length).1
def zas (p:Rp) (i:Nat):Rp:=
 let x:=p.rc i
 if own x&& !p.v.ds.contains x.ds then(p.note 2 i 0).setR i {x with ds:=at_ 0 p.v.ds 0} else p
def descriptors (p:Rp):Rp:=it zas p p.v.rs.length
def zdu (p:Rp) (d:Int) (before:List En) (x:En):Bool:=
 !before.any (λy=>same x.n y.n)&&right p.v x.f&&decide (16<=x.f.r)&&(p.rc x.f.r).ns.contains ⟨p.ref d,x.n⟩
def setLast (l:List Int) (n:Int):List Int:=l.set (l.length-1) n
def entryStep (i:Nat) (es:List En) (s:Rp×List En) (k:Nat):Rp×List En:=
 let x:=at_ En.o es k
 if zdu s.1 i s.2 x then(s.1,s.2++[x])
 else
  let p:=s.1.note 3 i s.2.length
  (if x.f.r<p.v.rs.length/\(p.rc x.f.r).q=x.f.q then{p with fl:=setLast p.fl x.f.r} else p,s.2)
def zaa (p:Rp) (i:Nat):Rp:=
 if dir (p.rc i) then
  let s:=it (entryStep i (p.rc i).es) (p,[]) (p.rc i).es.length
  s.1.setR i {s.1.rc i with es:=s.2}
 else p
def badEntries (p:Rp):Rp:=it zaa p p.v.rs.length
def ixE (n:List UInt8):List En->Option Nat
 |[]=>none
 |x::l=>if same x.n n then some 0 else(ixE n l).map (·+1)
def isName (p:Rp) (r:Nat) (before:List Nm) (n:Nm):Bool×Bool:=
 if right p.v n.d&&(p.rc n.d.r).k==0 then
  if before.any (λy=>decide (y.d=n.d)&&same y.n n.n) then(false,false)
  else if before≠[]/\(p.rc r).k≠1 then(false,false)
  else match ixE n.n (p.rc n.d.r).es with
   |none=>(decide ((p.rc n.d.r).es.length<zdI n.d.r),false)
   |some k=>(decide ((at_ En.o (p.rc n.d.r).es k).f=p.ref r/\(at_ En.o (p.rc n.d.r).es k).n=n.n),true)
 else(false,false)
def drop (p:Rp) (r:Nat) (n:Nm):Rp:=
 if right p.v n.d&&(p.rc n.d.r).k==0 then
  p.setR n.d.r.toNat {p.rc n.d.r with es:=(p.rc n.d.r).es.filter λx=> !(decide (x.f=p.ref r)&&decide (x.n=n.n))}
 else p
def enter (p:Rp) (d:Int) (n:List UInt8) (r:Nat):Rp:=
 p.setR d.toNat {p.rc d with es:=(p.rc d).es++[⟨n,p.ref r,sizeOf (p.rc r)⟩]}
def nameStep (i:Nat) (all:List Nm) (s:Rp×List Nm) (k:Nat):Rp×List Nm:=
 let n:=at_ Nm.o all k
 if(isName s.1 i s.2 n).1 then
  (if(isName s.1 i s.2 n).2 then s.1 else enter (s.1.note 5 i s.2.length) n.d.r n.n i,s.2++[n])
 else
  let p:=s.1.note 4 i s.2.length
  (if !s.2.contains n&& !(all.drop (k+1)).contains n then drop p i n else p,s.2)
def badNames1 (p:Rp) (i:Nat):Rp:=
 let s:=it (nameStep i (p.rc i).ns) (p,[]) (p.rc i).ns.length
 s.1.setR i {s.1.rc i with ns:=s.2}
def below (f:Rp->Nat->Rp) (p:Rp):Rp:=it (λq j=>if own (q.rc (16+j:Nat)) then f q (16+j) else q) p (p.v.rs.length-16)
def badNames (p:Rp):Rp:=below badNames1 p
def digit (n:Nat):UInt8:=UInt8.ofNat (48+n%10)
def dec (n:Nat):List UInt8:=if n<10 then [digit n] else dec (n/10)++[digit n]
decreasing_by omega
def found :List UInt8:=[102,111,117,110,100,46]
def zad (r:Nat):Nat->List UInt8
 |0=>found++dec r
 |k+1=>found++dec r++[46]++dec (k+1)
def zbY (es:List En) (r:Nat) (k:Nat):Nat->Nat
 |0=>k
 |m+1=>if es.any (λx=>same x.n (zad r k)) then zbY es r (k+1) m else k
def bring (p:Rp) (r:Nat):Rp:=
 let n:=zad r (zbY (p.rc 5).es r 0 ((p.rc 5).es.length+1))
 enter (p.setR r {p.rc r with ns:=[⟨p.ref 5,n⟩]}) 5 n r
def zaz (p:Rp) (i:Nat):Rp:=if(p.rc i).ns.length=0 then bring (p.note 6 i 0) i else p
def orphans (p:Rp):Rp:=below zaz p
def zb2 (p:Rp) (i:Nat):Rp:=
 if(p.rc i).ln≠(p.rc i).ns.length then(p.note 8 i 0).setR i {p.rc i with ln:=(p.rc i).ns.length} else p
def links (p:Rp):Rp:=below zb2 p
def zak (i:Nat) (p:Rp) (k:Nat):Rp:=
 let x:=at_ En.o (p.rc i).es k
 if right p.v x.f&&x.z !=sizeOf (p.rc x.f.r) then
  (p.note 9 i k).setR i {p.rc i with es:=(p.rc i).es.set k {x with z:=sizeOf (p.rc x.f.r)}}
 else p
def zai (p:Rp) (i:Nat):Rp:=if dir (p.rc i) then it (zak i) p (p.rc i).es.length else p
def sizes (p:Rp):Rp:=it zai p p.v.rs.length
def zkV (t:List UInt8) (c:Nat):List UInt8:=t.set (c/8) (at_ 0 t (c/8)|||UInt8.ofNat (2^(c%8)))
def zcV (c:Int) (r:Run) (t:List UInt8) (k:Nat):List UInt8:=if r.s≠-1/\r.s+k<c then zkV t (r.s+k).toNat else t
def mark (c:Int) (l:List Run) (t:List UInt8):List UInt8:=it (λt i=>it (zcV c (at_ Run.o l i)) t (at_ Run.o l i).l.toNat) t l.length
def zd2 (c:Int) (x:Rc) (t:List UInt8):List UInt8:=it (λt k=>mark c (at_ Sm.o x.ss k).r t) t x.ss.length
def used (v:Pt):List UInt8:=it (λt i=>zd2 v.c (at_ Rc.o v.rs i) t) (mark v.c v.al (List.replicate ((v.c+7)/8).toNat 0)) v.rs.length
def zc6 (t:List UInt8) (c:Nat):Nat:=(at_ 0 t (c/8)).toNat/2^(c%8)%2
def zaB (want:List UInt8) (p:Rp) (c:Nat):Rp:=if zc6 want c≠zc6 p.v.mp c then p.note 10 c 0 else p
def bits (p:Rp):Rp:=
 let q:=it (zaB (used p.v)) p p.v.c.toNat
 {q with v:={q.v with mp:=used p.v}}
def zcc (p:Rp) (r:Int):Bool:=(List.range p.fd.length).any λi=>decide ((at_ Fd.o p.fd i).k<=7)&&(decide ((at_ Fd.o p.fd i).r=r)||decide (at_ 0 p.fl i=r))
end Ck
namespace Ck
open Go Go.Ex
abbrev ib (n:Int):AV:= .sc (.int .i64 n)
abbrev bb (n:Bool):AV:= .sc (.bool n)
abbrev tb (n:List UInt8):AV:= .sc (.string ⟨⟨n⟩⟩)
abbrev LS {α:Type} (sz:Nat) (enc:α->List AV) (o:α) (l:List α):AV:= .lst sz l.length λi=>enc (at_ o l i)
def zaP (x:Run):List AV:=[ib x.s,ib x.l]
def ze1 (x:Ref):List AV:=[ib x.r,ib x.q]
def aNm (x:Nm):List AV:=[ib x.d.r,ib x.d.q,tb x.n]
def aEn (x:En):List AV:=[tb x.n,ib x.f.r,ib x.f.q,ib x.z]
def aSm (x:Sm):List AV:=[LS 2 zaP Run.o x.r,ib x.z]
def aRc (x:Rc):List AV:=[bb x.u,ib x.q,ib x.k,ib x.b.r,ib x.b.q,ib x.ln,ib x.ds,LS 3 aNm Nm.o x.ns,LS 2 aSm Sm.o x.ss,LS 4 aEn En.o x.es]
def aI (x:Int):List AV:=[ib x]
def aPt (x:Pt):List AV:=[ib x.c,LS 2 zaP Run.o x.al,LS 10 aRc Rc.o x.rs,LS 1 aI 0 x.ds,tb x.mp]
abbrev zbF (x:Pt):AV:= .agg (aPt x)
abbrev zpy (x:Rc):AV:= .agg (aRc x)
end Ck
namespace Go.Proofs.YtgcjejajljhnaaaGreatDoor
open Go.Ex Ck
set_option maxRecDepth 100000
set_option maxHeartbeats 400000
theorem zal :Tryz.prog.follows .mixedOrders=true:=by decide+kernel
theorem za6 (n lo hi:Int):PureC Tryz.prog 59 [ib n,ib lo,ib hi] (bb (Ck.wi n lo hi)):=by
 refine ytX zal rfl ?_
 conv=>whnf
 refine yPX (λh=> ?_) (λh=> ?_)
 all_goals
  refine Ex.go ?_;refine .z [] ?_;(conv=>whnf);simp[Ck.wi,h]
theorem za5 (n lo hi:Int):PureC Tryz.prog 29 [ib n,ib lo,ib hi] (bb (Ck.wi n lo hi)):=by
 refine ytX zal rfl ?_
 conv=>whnf
 refine yPX (λh=> ?_) (λh=> ?_)
 all_goals
  refine Ex.go ?_;refine .z [] ?_;(conv=>whnf);simp[Ck.wi,h]
theorem zbi (b:Bool) (e:Int):PureC Tryz.prog 58 [bb b,ib e] (ib (if b then 0 else e)):=by
 refine ytX zal rfl ?_
 conv=>whnf
 cases b
 all_goals
  refine Ex.go ?_;refine .z [] ?_;(conv=>whnf);exact⟨rfl,rfl⟩
theorem zjW (x:Rc):PureC Tryz.prog 61 [zpy x] (bb (Ck.own x)):=by
 refine ytX zal rfl ?_
 conv=>whnf
 unfold Ck.own;cases hu:x.u
 all_goals
  refine Ex.go ?_;refine .z [] ?_;(conv=>whnf);rfl
theorem zf6 (l:List Int) (hl:l.length<=1000000):PureC Tryz.prog 57 [LS 1 aI 0 l] (ib (Ck.first l)):=by
 refine ytX zal rfl ?_
 conv=>whnf
 refine yFX zal (D:=Nat) (λd=>l.length-d) (λd=>d<=l.length/\Ck.first (l.drop d)=Ck.first l) (λd=>zag [(0,LS 1 aI 0 l),(5,LS 1 aI 0 l),(6,ib l.length),(7,ib d)] 15) (λd=>zan []) 0 ⟨ymX _,rfl⟩ ?_ ?_
 ·exact Ex.wO [] []
 ·rintro d ⟨hd,hz⟩
  conv=>whnf
  refine yPX (λh=> ?_) (λh=> ?_)
  ·have hlt:d<l.length:=zo
   have hs:Ck.first (at_ 0 l d::l.drop (d+1))=if at_ 0 l d=0 then Ck.first (l.drop (d+1)) else at_ 0 l d:=rfl
   rw[drop_at 0 l d hlt,hs] at hz;by_cases h0:at_ 0 l d=0
   ·rw[ygX h0] at hz
    (conv=>whnf);repeat(first|refine Ex.g ?_|refine KIf.f (b:= !decide (at_ 0 l d=0)) (by simp[h0]) ?_);conv=>whnf
    refine⟨d+1,⟨zo,hz⟩,by dsimp only;omega,?_⟩;exact Ex.wO [] []
   ·rw[yfX h0] at hz
    (conv=>whnf);repeat(first|refine Ex.g ?_|refine KIf.t (b:= !decide (at_ 0 l d=0)) (by simp[h0]) ?_);conv=>whnf
    refine .z [] ?_;(conv=>whnf);exact⟨rfl,hz.symm⟩
  ·refine Ex.go ?_;refine .z [] ?_;(conv=>whnf);refine⟨rfl,?_⟩;rw[←hz,yhY zo];rfl
theorem zbd (x:Rc):PureC Tryz.prog 102 [zpy x] (bb (Ck.dir x)):=by
 refine ytX zal rfl ?_
 conv=>whnf
 unfold Ck.dir;cases hu:x.u
 all_goals
  refine Ex.go ?_;refine .z [] ?_;(conv=>whnf);rfl
theorem zmg (v:Pt) (r:Ref) (hn:v.rs.length<=100000):PureC Tryz.prog 101 [zbF v, .agg (ze1 r)] (.tup [zpy (if wi r.r 0 (v.rs.length-1) then Ck.rc v r.r else Rc.o),bb (Ck.right v r)]):=by
 refine ytX zal rfl ?_
 conv=>whnf
 unfold Ck.right;by_cases h:wi r.r 0 (v.rs.length-1)=true
 ·have h2:0<=r.r/\r.r<v.rs.length:=by simp[wi] at h;omega
  rw[ygX h];cases ho:Ck.own (at_ Rc.o v.rs r.r.toNat)
  ·(conv=>whnf);repeat(first|refine Ex.g ?_|refine yaX (za6 _ _ _) ?_|refine yxX (zjW _) ?_);conv=>whnf
   (refine .z [] ?_;conv=>whnf);(repeat' first|exact zT|exact rfl|refine zA ?_ ?_)<;>(try(conv=>whnf))<;>(first|(intro _ _;rfl)|simp[Ck.rc,h,ho])
  ·(conv=>whnf);repeat(first|refine Ex.g ?_|refine yaX (za6 _ _ _) ?_|refine yxX (zjW _) ?_);conv=>whnf
   (refine .z [] ?_;conv=>whnf);(repeat' first|exact zT|exact rfl|refine zA ?_ ?_)<;>(try(conv=>whnf))<;>(first|(intro _ _;rfl)|(simp[Ck.rc,h,ho];rfl))
 ·have h2:wi r.r 0 (v.rs.length-1)=false:=by simpa using h
  rw[yfX h]
  (conv=>whnf);repeat(first|refine Ex.g ?_|refine yaX (za6 _ _ _) ?_);conv=>whnf
  (refine .z [] ?_;conv=>whnf);(repeat' first|exact zT|exact rfl|refine zA ?_ ?_)<;>(try(conv=>whnf))<;>(simp[h2])
end Go.Proofs.YtgcjejajljhnaaaGreatDoor
namespace Go.Ex
open Go
mutual
def NmP (p:Nat->Prop):AV->Prop
 | .ptr b _=>p b
 | .sl b _ _ _=>p b
 | .so b _ _ _=>p b
 | .fn _ a c=>zgy p a/\zgy p c
 | .agg l=>zgy p l
 | .tup l=>zgy p l
 | .ifc _ v=>NmP p v
 |_=>True
def zgy (p:Nat->Prop):List AV->Prop
 |[]=>True
 |x::l=>NmP p x/\zgy p l
end
def RS (R:Nat->Option Nat) (k:Nat):Prop:=(R k).isSome=true
def RD (R:Nat->Option Nat) (k:Nat):Nat:=match R k with|some b=>b|none=>0
section
variable {m m1 : Mp} {w : World} {h : T AO} {z : List Nat} {p : Nat -> Prop} {rr : Nat -> Nat}
mutual
theorem zsg (hok:Ok m h.get w) (hm:∀k x,p k->m (rr k)=some x->m1 k=some x) (hz1:m1.z=zdL m h.get z w):∀(v1:AV) {v:AV} {x:Value},NmP p v1->Wv h z rr v1 v->R1 m v x->R1 m1 v1 x
 | .any,_,_,_,_,_=>trivial
 | .sc _,v,x,_,hw,hr=>by
  unfold Wv at hw;split at hw
  ·rw[hw.eq];exact hr
  ·exact hw.elim
 | .ptr b o,v,x,hn,hw,hr=>by
  unfold Wv at hw;unfold NmP at hn;split at hw
  ·obtain⟨rfl,rfl⟩:=hw;obtain⟨k,o',c,hk,e⟩:=hr;exact⟨k,o',c,hm _ _ hn hk,e⟩
  ·exact hw.elim
 | .sl b o n c,v,x,hn,hw,hr=>by
  unfold Wv at hw;unfold NmP at hn;split at hw
  ·obtain⟨rfl,rfl,rfl,rfl⟩:=hw;obtain⟨k,o',c',hk,e⟩:=hr;exact⟨k,o',c',hm _ _ hn hk,e⟩
  ·exact hw.elim
 | .so b o n s,v,x,hn,hw,hr=>by
  unfold Wv at hw;unfold NmP at hn;split at hw
  ·obtain⟨rfl,rfl,rfl,rfl⟩:=hw;obtain⟨k,o',c',hk,hc,e⟩:=hr;exact⟨k,o',c',hm _ _ hn hk,hc,e⟩
  ·exact hw.elim
 | .fn f a c,v,x,hn,hw,hr=>by
  unfold Wv at hw;unfold NmP at hn;split at hw
  ·obtain⟨rfl,h1,h2⟩:=hw;obtain⟨a',b',ha,hb,e⟩:=hr;exact⟨a',b',zef hok hm hz1 a hn.1 h1 ha,zef hok hm hz1 c hn.2 h2 hb,e⟩
  ·exact hw.elim
 | .agg l,v,x,hn,hw,hr=>by
  unfold Wv at hw;unfold NmP at hn;split at hw
  ·obtain⟨l',hl,e⟩:=hr;exact⟨l',zef hok hm hz1 l hn hw hl,e⟩
  ·rename_i cs;cases hr;exact⟨cs.toList,zef hok hm hz1 l hn hw (Rl.sc _),by simp⟩
  ·exact hw.elim
 | .tup l,v,x,hn,hw,hr=>by
  unfold Wv at hw;unfold NmP at hn;split at hw
  ·obtain⟨l',hl,e⟩:=hr;exact⟨l',zef hok hm hz1 l hn hw hl,e⟩
  ·exact hw.elim
 | .ifc t x1,v,x,hn,hw,hr=>by
  unfold Wv at hw;unfold NmP at hn;split at hw
  ·obtain⟨rfl,hw⟩:=hw;obtain⟨v',hv,e⟩:=hr;exact⟨v',zsg hok hm hz1 x1 hn hw hv,e⟩
  ·exact hw.elim
 | .lst sz n f,v,x,_,hw,hr=>by
  unfold Wv at hw;have:=zsf hok (.lst sz n f) hw hr;show Rz m1.z _ _;rw[hz1];exact this
 | .cp cs off,v,x,_,hw,hr=>by
  unfold Wv at hw;subst hw;show Rz m1.z _ _;rw[hz1];exact Rz.mono zaW _ _ hr
theorem zef (hok:Ok m h.get w) (hm:∀k x,p k->m (rr k)=some x->m1 k=some x) (hz1:m1.z=zdL m h.get z w):∀(l1:List AV) {l:List AV} {xs:List Value},zgy p l1->Wvl h z rr l1 l->Rl m l xs->Rl m1 l1 xs
 |[],l,xs,_,hw,hr=>by
  unfold Wvl at hw;split at hw
  ·exact hr
  ·exact hw.elim
 |v1::l1,l,xs,hn,hw,hr=>by
  unfold Wvl at hw;unfold zgy at hn;split at hw
  ·obtain⟨y,ys,e,h1,h2⟩:=hr;exact⟨y,ys,e,zsg hok hm hz1 v1 hn.1 hw.1 h1,zef hok hm hz1 l1 hn.2 hw.2 h2⟩
  ·exact hw.elim
end
end
def WRowG (h:T AO) (z:List Nat) (R:Nat->Option Nat) (c1 c:List AV):Prop:=(zgy (RS R) c1/\Wvl h z (RD R) c1 c)∨∃t,c=c1++t/\cont.contL c1=true
theorem WRowG.same {h:T AO} {z:List Nat} {R:Nat->Option Nat} {c1 c:List AV} (e:c1=c) (hc:cont.contL c=true):WRowG h z R c1 c:= .inr ⟨[],by simp[e],by rw[e];exact hc⟩
theorem Rl.split {m:Mp}:∀{a b:List AV} {xs:List Value},Rl m (a++b) xs->∃ys zs,xs=ys++zs/\Rl m a ys/\Rl m b zs
 |[],b,xs,h=>⟨[],xs,rfl,rfl,h⟩
 |x::a,b,xs,⟨y,ys,e,h1,h2⟩=>by
  obtain⟨ys',zs,rfl,h3,h4⟩:=Rl.split (a:=a) h2;exact⟨y::ys',zs,by rw[e];rfl,⟨y,ys',rfl,h1,h3⟩,h4⟩
def WOG (h:T AO) (z:List Nat) (R:Nat->Option Nat) (o1 o:AO):Prop:=
 match o1 with
 | .row c1 e1 q1=>match o with| .row c e q=>e1=e/\q1=q/\WRowG h z R c1 c|_=>False
 | .iter s p=>match o with| .iter s' p'=>s=s'/\p=p'|_=>False
structure Ren (h:T AO) (z:List Nat) (R:Nat->Option Nat) (F1:AH):Prop where
 row:∀k o1,F1 k=some o1->∃k0 o,R k=some k0/\h.get k0=some o/\k0∉z/\WOG h z R o1 o
 inj:∀k k' o o' k0,F1 k=some o->F1 k'=some o'->R k=some k0->R k'=some k0->k=k'
noncomputable def mR (m:Mp) (h:T AO) (z:List Nat) (R:Nat->Option Nat) (w:World):Mp:=⟨λk=>(R k).bind m.f,zdL m h.get z w⟩
section
variable {m m1 : Mp} {w : World} {h : T AO} {z : List Nat} {R : Nat -> Option Nat} {F1 : AH}
theorem zlf {k k0:Nat} (hk:R k=some k0):mR m h z R w k=m k0:=by show(R k).bind m.f=_;rw[hk];rfl
theorem zvx :∀k x,RS R k->m (RD R k)=some x->mR m h z R w k=some x:=by
 intro k x hk hx;unfold RS at hk;unfold RD at hx
 cases e:R k with
 |none=>rw[e] at hk;cases hk
 |some k0=>rw[e] at hx;rw[zlf e];exact hx
theorem zyJ (hok:Ok m h.get w) {k k0:Nat} {o1 o:AO} (hk:R k=some k0) (h3:WOG h z R o1 o) (hR:o.R m w k0):o1.R (mR m h z R w) w k:=by
 unfold WOG at h3;split at h3
 ·split at h3
  ·obtain⟨rfl,rfl,h3⟩:=h3;obtain⟨k',o,cap,cur,fr,pre,vs,post,q1,q2,q3,q4,q5,q6,q7⟩:=hR
   rcases h3 with⟨h4,h5⟩|⟨t,rfl,h4⟩
   ·exact⟨k',o,cap,cur,fr,pre,vs,post,(zlf hk).trans q1,q2,q3,q4,q5,zef hok zvx rfl _ h4 h5 q6,q7⟩
   ·obtain⟨ys,zs,rfl,h5,h6⟩:=Rl.split q6;refine⟨k',o,cap,cur,fr,pre,ys,zs++post,(zlf hk).trans q1,q2,q3,by rw[q4];simp,q5,zbX h4 h5 zaW,λhs=> ?_⟩;have:=q7 hs;simp only[yvX] at this⊢;omega
  ·exact h3.elim
 ·split at h3
  ·obtain⟨rfl,rfl⟩:=h3;obtain⟨k',q1,q2⟩:=hR;exact⟨k',(zlf hk).trans q1,q2⟩
  ·exact h3.elim
theorem Ren.gk {n0:Nat} (H:Ren h z R F1) (hok:Ok m h.get w) (hlow:∀k,k<n0->R k=some k):Gk n0 h.get F1 m (mR m h z R w) w w:=by
 have hblk:∀k k0,R k=some k0->blk (mR m h z R w) k=blk m k0:=λk k0 hk=>by unfold blk;rw[zlf hk]
 refine⟨⟨λk o hk=> ?_,λk k' o o' hk hk' hne=> ?_,λk i v hv=> ?_,hok.tbsub λk o hk=> ?_⟩,⟨rfl,rfl,rfl,yhX _,λ_ _ _=>rfl⟩,λk o hk=> ?_,zaW,λk i v hv=> ?_,λk hk=>zlf (hlow k hk)⟩
 ·obtain⟨k0,o0,h1,h2,_,h3⟩:=H.row k o hk;exact zyJ hok h1 h3 (hok.has k0 o0 h2)
 ·obtain⟨k0,o0,h1,h2,_,_⟩:=H.row k o hk;obtain⟨k0',o0',h1',h2',_,_⟩:=H.row k' o' hk';rw[hblk k k0 h1,hblk k' k0' h1'];refine hok.apart k0 k0' o0 o0' h2 h2' λe=>hne ?_;subst e;exact H.inj k k' o o' k0 hk hk' h1 h1'
 ·refine⟨?_,λb o hb=> ?_⟩
  ·rcases zat hv with h1|⟨_,h1⟩
   ·exact(hok.fz k i v h1).1
   ·exact h1
  ·obtain⟨b0,o0,h1,h2,hz,_⟩:=H.row b o hb;rw[hblk b b0 h1]
   rcases zat hv with h3|⟨⟨b1,o1,h3,h4,h5⟩,_⟩
   ·exact(hok.fz k i v h3).2 b0 o0 h2
   ·intro e
    have hne:b1≠b0:=λe1=>by subst e1;exact hz h3
    exact hok.apart b1 b0 o1 o0 h4 h2 hne (h5.trans e.symm)
 ·obtain⟨b0,o0,h1,h2,_⟩:=H.row k o hk;exact⟨b0,o0,h2,hblk k b0 h1⟩
 ·obtain⟨b0,o0,h1,h2,_⟩:=H.row k o hk;exact .inl ⟨b0,o0,h2,hblk k b0 h1⟩
 ·rcases zat hv with h1|⟨⟨b1,o1,h3,h4,h5⟩,_⟩
  ·exact .inl h1
  ·exact .inr (.inl ⟨b1,o1,h4,h5⟩)
def zhe (h:T AO) (z:List Nat) (R:Nat->Option Nat) (t:Tm):List (Nat×AV)->Prop
 |[]=>True
 |p::l=>(NmP (RS R) p.2/\Wv h z (RD R) p.2 (t.get p.1))/\zhe h z R t l
theorem ziq {t:Tm} {v1:AV} {i:Nat}:∀{l:List (Nat×AV)},zhe h z R t l->(zcU l).get i=some v1->NmP (RS R) v1/\Wv h z (RD R) v1 (t.get i)
 |[],_,hv=>by cases hv
 |p::l,hw,hv=>by
  have hv':((zcU l).put p.1 (some p.2)).get i=some v1:=hv;rw[ydY] at hv';obtain⟨h1,h2⟩:=hw;split at hv'
  ·rename_i e;cases hv';subst e;exact h1
  ·exact ziq h2 hv'
theorem Weak.gen {n0:Nat} {t:Tm} {s s1:St} {sl:List (Nat×AV)} {n:Nat} (hn:t.n=n) (H:Ren s.h z R s1.h.get) (hlow:∀k,k<n0->R k=some k) (hab:∀k,s1.n<=k->R k=none) (hn1:n0<=s1.n) (hsl:zhe s.h z R t sl):Weak n0 t s (zag sl n) s1:=by
 intro m a w hf hok ha hn0;refine⟨mR m s.h z R w,⟨hn▸hf.n,λi=> ?_⟩,H.gk hok hlow,λk hk=> ?_,hn1⟩
 ·show R1 _ (match(zcU sl).get i with|some v=>v|none=> .any) _
  cases hv:(zcU sl).get i with
  |none=>trivial
  |some v1=>
   obtain⟨h1,h2⟩:=ziq hsl hv;exact zsg hok zvx rfl v1 h1 h2 (hf.r i)
 ·show(R k).bind m.f=none;rw[hab k hk];rfl
end
end Go.Ex
namespace Go.Ex
open Go
theorem CallOk.liftGen {P:Program} {f:FuncId} {args0 args:List AV} {v1 v2:AV} {s s':St} {z:List Nat} {R:Nat->Option Nat} {F0 F1:AH} {n0 nA:Nat} (ρ inv:Nat->Nat)
  (hc:∀m w args',Rl m args0 args'->Ok m F0 w->Above m nA->Calls P f args'.toArray w λe w'=>∃y m',e= .returned y/\Gk n0 F0 F1 m m' w w'/\R1 m' v1 y/\Above m' nA)
  (hren:Ren s.h z R F0) (hab:∀k,nA<=k->R k=none) (hargs:zgy (RS R) args0/\Wvl s.h z (RD R) args0 args) (hle:s.n<=s'.n)
  (hρ:∀k,k<nA->(s.n<=ρ k/\ρ k<s'.n/\inv (ρ k)=k)∨(k<n0/\R k=some (ρ k)))
  (hv:Rn ρ v1 v2) (hrow:∀B o,s'.h.get B=some o->(∃k o1,F1 k=some o1/\RnO ρ o1 o/\B=ρ k)∨(s.h.get B=some o/\B∉z/\∀k o0,F0 k=some o0->R k≠some B)):CallOk P f args s v2 s':=by
 intro m w args' hR hok hfr
 have hblk0:∀k k0,R k=some k0->blk (mR m s.h z R w) k=blk m k0:=λk k0 hk=>by unfold blk;rw[zlf hk]
 have g1:Gk 0 s.h.get F0 m (mR m s.h z R w) w w:=hren.gk hok (λk hk=>absurd hk (ypX _))
 have ha1:Above (mR m s.h z R w) nA:=λk hk=>by show(R k).bind m.f=none;rw[hab k hk];rfl
 have hR0:=zef hok zvx rfl args0 hargs.1 hargs.2 hR;refine Calls.mono (hc _ w args' hR0 g1.ok ha1) ?_;rintro e w' ⟨y,m1,rfl,g2,hv1,ha2⟩;have g:Gk 0 s.h.get F1 m m1 w w':=g1.trans ⟨g2.ok,g2.fr,g2.new,g2.zle,g2.znew,λb hb=>absurd hb (ypX _)⟩;have hfr:∀b,s.n<=b->b<s'.n->m b=none:=hfr
 let m':Mp:=⟨λB=>if s.n<=B/\B<s'.n then m1 (inv B) else m B,m1.z⟩
 have hout:∀B x,m B=some x->m' B=some x:=λB x hb=>by
  show(if s.n<=B/\B<s'.n then _ else _)=_;split
  ·rename_i h;rw[hfr B h.1 h.2] at hb;cases hb
  ·exact hb
 have hρ':∀k x,m1 k=some x->m' (ρ k)=some x:=λk x hk=>by
  have hlt:k<nA:=Nat.lt_of_not_le λh=>by rw[ha2 k h] at hk;cases hk
  rcases hρ k hlt with⟨h1,h2,h3⟩|⟨h1,h2⟩
  ·show(if s.n<=ρ k/\ρ k<s'.n then m1 (inv (ρ k)) else m (ρ k))=_;rw[ygX ⟨h1,h2⟩,h3];exact hk
  ·refine hout _ _ ?_;rw[←hk,g2.low k h1,zlf h2]
 have hblk:∀j k,blk m1 j=some k->blk m' (ρ j)=some k:=λj k h=>by
  unfold blk at h⊢
  cases hj:m1 j with
  |none=>rw[hj] at h;cases h
  |some x=>rw[hj] at h;rw[hρ' j x hj];exact h
 have hblko:∀b k,blk m b=some k->blk m' b=some k:=λb k h=>by
  unfold blk at h⊢
  cases hj:m b with
  |none=>rw[hj] at h;cases h
  |some x=>rw[hj] at h;rw[hout b x hj];exact h
 have hsep:∀j o1 b o,F1 j=some o1->s.h.get b=some o->(∀k o0,F0 k=some o0->R k≠some b)->blk m1 j≠blk m b:=λj o1 b o hj hb hr=>by
  rcases g2.new j o1 hj with⟨b0,o0,h0,e0⟩|⟨k,ek,hk⟩
  ·obtain⟨b1,o2,h1,h2,_⟩:=hren.row b0 o0 h0;rw[e0,hblk0 b0 b1 h1];exact hok.apart b1 b o2 o h2 hb λe=>hr b0 o0 h0 (e▸h1)
  ·obtain⟨k',h1,h2⟩:=y5X (hok.has b o hb);rw[ek,h1];intro e;cases e;omega
 have hok':Ok m' s'.h.get w':=by
  refine⟨λb o hb=> ?_,λb b' o o' hb hb' hne=> ?_,λk i v hv=> ?_,λk x hk=> ?_⟩
  ·rcases hrow b o hb with⟨j,o1,h1,h2,rfl⟩|⟨h1,h2,h3⟩
   ·have hR:=g2.ok.has j o1 h1;unfold RnO at h2;split at h2
    ·split at h2
     ·obtain⟨rfl,rfl,h2⟩:=h2;obtain⟨k,o,cap,cur,fr,pre,vs,post,q1,q2,q3,q4,q5,q6,q7⟩:=hR;refine⟨k,o,cap,cur,fr,pre,vs,post,hρ' _ _ q1,q2,q3,q4,q5,?_,q7⟩
      rcases h2 with h2|⟨rfl,h2⟩
      ·exact zib hρ' (λ_ _ _ h=>h) _ h2 q6
      ·exact zbX h2 q6 λ_ _ _ h=>h
     ·exact h2.elim
    ·split at h2
     ·obtain⟨rfl,rfl⟩:=h2;obtain⟨k,q1,q2⟩:=hR;exact⟨k,hρ' _ _ q1,q2⟩
     ·exact h2.elim
   ·have hRo:=hok.has b o h1;refine yMZ hRo ⟨hout,g.zle⟩ λk hk=> ?_;obtain⟨k',hk',hlt⟩:=y5X hRo;rw[hk] at hk';cases hk';refine g2.fr.block k hlt λb0 o0 h0 e0=> ?_;obtain⟨b1,o2,h4,h5,_⟩:=hren.row b0 o0 h0;rw[hblk0 b0 b1 h4] at e0;exact hok.apart b1 b o2 o h5 h1 (λe=>h3 b0 o0 h0 (e▸h4)) (e0.trans hk.symm)
  ·rcases hrow b o hb with⟨j,o1,h1,h2,rfl⟩|⟨h1,h2,h3⟩
   ·obtain⟨k,hk,_⟩:=y5X (g2.ok.has j o1 h1);rw[hblk _ _ hk]
    rcases hrow b' o' hb' with⟨j',o1',h1',h2',rfl⟩|⟨h1',h2',h3'⟩
    ·obtain⟨k',hk',_⟩:=y5X (g2.ok.has j' o1' h1');rw[hblk _ _ hk',←hk,←hk'];exact g2.ok.apart j j' o1 o1' h1 h1' λe=>hne (by rw[e])
    ·obtain⟨k',hk',_⟩:=y5X (hok.has b' o' h1');rw[hblko _ _ hk',←hk,←hk'];exact hsep j o1 b' o' h1 h1' h3'
   ·obtain⟨k,hk,_⟩:=y5X (hok.has b o h1);rw[hblko _ _ hk]
    rcases hrow b' o' hb' with⟨j',o1',h1',h2',rfl⟩|⟨h1',h2',h3'⟩
    ·obtain⟨k',hk',_⟩:=y5X (g2.ok.has j' o1' h1');rw[hblk _ _ hk',←hk,←hk'];exact λe=>hsep j' o1' b o h1' h1 h3 e.symm
    ·obtain⟨k',hk',_⟩:=y5X (hok.has b' o' h1');rw[hblko _ _ hk',←hk,←hk'];exact hok.apart b b' o o' h1 h1' hne
  ·have hv:m1.z k i=some v:=hv;refine⟨(g2.ok.fz k i v hv).1,λb o hb=> ?_⟩
   rcases hrow b o hb with⟨j,o1,h1,h2,rfl⟩|⟨h1,h2,h3⟩
   ·obtain⟨k',hk',_⟩:=y5X (g2.ok.has j o1 h1);rw[hblk _ _ hk',←hk'];exact(g2.ok.fz k i v hv).2 j o1 h1
   ·obtain⟨k',hk',hlt⟩:=y5X (hok.has b o h1);rw[hblko _ _ hk'];intro e;cases e
    rcases g2.znew k i v hv with h4|⟨b0,o0,h0,e0⟩|h4
    ·rcases zat h4 with h5|⟨⟨b1,o1,h5,h6,h7⟩,_⟩
     ·exact(hok.fz k i v h5).2 b o h1 hk'
     ·exact hok.apart b1 b o1 o h6 h1 (λe=>h2 (e▸h5)) (h7.trans hk'.symm)
    ·obtain⟨b1,o2,h5,h6,_⟩:=hren.row b0 o0 h0;rw[hblk0 b0 b1 h5] at e0;exact hok.apart b1 b o2 o h6 h1 (λe=>h3 b0 o0 h0 (e▸h5)) (e0.trans hk'.symm)
    ·omega
  ·refine⟨(g2.ok.tb k x hk).1,λb o hb=> ?_⟩
   rcases hrow b o hb with⟨j,o1,h1,h2,rfl⟩|⟨h1,h2,h3⟩
   ·obtain⟨k',hk',_⟩:=y5X (g2.ok.has j o1 h1);rw[hblk _ _ hk',←hk'];exact(g2.ok.tb k x hk).2 j o1 h1
   ·obtain⟨k',hk',_⟩:=y5X (hok.has b o h1);rw[hblko _ _ hk',←hk'];exact(hok.tb k x hk).2 b o h1
 refine⟨y,m',rfl,⟨hle,λb hb=> ?_,hok',g.fr,λb o hb=> ?_,g.zle,g.znew⟩,zsi hρ' (λ_ _ _ h=>h) v1 hv hv1⟩
 ·show(if s.n<=b/\b<s'.n then _ else _)=_;have hb:b<s.n∨s'.n<=b:=hb;rw[yfX zo]
 ·rcases hrow b o hb with⟨j,o1,h1,h2,rfl⟩|⟨h1,h2,h3⟩
  ·obtain⟨k,hk,_⟩:=y5X (g2.ok.has j o1 h1);rw[hblk _ _ hk,←hk]
   rcases g.new j o1 h1 with⟨b0,o0,h0,e0⟩|⟨k',e,hk'⟩
   ·exact .inl ⟨b0,o0,h0,e0⟩
   ·exact .inr ⟨k',e,hk'⟩
  ·obtain⟨k,hk,_⟩:=y5X (hok.has b o h1);exact .inl ⟨b,o,h1,by rw[hblko _ _ hk,hk]⟩
def plainA :AV->Bool
 | .sc _=>true
 | .any=>true
 | .agg l=>plainL l
 | .tup l=>plainL l
 |_=>false
where plainL:List AV->Bool
 |[]=>true
 |x::l=>match plainA x with|true=>plainL l|false=>false
mutual
theorem zjx {m m':Mp}:∀{v:AV} {x:Value},plainA v=true->R1 m v x->R1 m' v x
 | .sc _,_,_,h=>h
 | .any,_,_,_=>trivial
 | .agg l,_,hc,⟨l',hl,e⟩=>⟨l',zgT hc hl,e⟩
 | .tup l,_,hc,⟨l',hl,e⟩=>⟨l',zgT hc hl,e⟩
 | .ptr _ _,_,hc,_=>by cases hc
 | .sl _ _ _ _,_,hc,_=>by cases hc
 | .so _ _ _ _,_,hc,_=>by cases hc
 | .fn _ _ _,_,hc,_=>by cases hc
 | .ifc _ _,_,hc,_=>by cases hc
 | .lst _ _ _,_,hc,_=>by cases hc
 | .cp _ _,_,hc,_=>by cases hc
theorem zgT {m m':Mp}:∀{l:List AV} {xs:List Value},plainA.plainL l=true->Rl m l xs->Rl m' l xs
 |[],_,_,h=>h
 |x::l,_,hc,⟨y,ys,e,h1,h2⟩=>by
  unfold plainA.plainL at hc;split at hc
  ·rename_i hx;exact⟨y,ys,e,zjx hx h1,zgT hc h2⟩
  ·cases hc
end
open Classical in
theorem CallOk.lend {P:Program} {f:FuncId} {args args1:List AV} {s:St} {v:AV} (z:List Nat) (hw:Wzl s.h z args1 args) (hc:PureC P f args1 v) (hv:plainA v=true):CallOk P f args s v s:=by
 intro m w args' hR hok hfr
 let m1:Mp:=⟨m.f,zdL m s.h.get z w⟩
 have hok1:Ok m1 (⟨.e,s.n⟩:St).h.get w:=by
  refine⟨λb o hb=>(by cases hb),λb b' o o' hb=>(by cases hb),λk i v hv=>⟨?_,λb o hb=>(by cases hb)⟩,hok.tbsub λb o hb=>(by cases hb)⟩
  rcases zat hv with h1|⟨_,h6⟩
  ·exact(hok.fz k i v h1).1
  ·exact h6
 have hR1:Rl m1 args1 args':=Rzl.rl (m:=m1) (zee hok args1 hw hR);refine Calls.mono (hc ⟨.e,s.n⟩ m1 w args' hR1 hok1 (λb h1 h2=>absurd (ywY h2 h1) (Nat.lt_irrefl _))) ?_;rintro e w' ⟨y,m',rfl,hg,hy⟩
 let own:Nat->Prop:=λk=>∃b o,b∈z/\s.h.get b=some o/\blk m b=some k
 let m2:Mp:=⟨m'.f,λk i=>if own k then m.z k i else m'.z k i⟩
 have hext:∀b,m' b=m b:=λb=>hg.ext b zo
 have hblk:∀b,blk m2 b=blk m b:=λb=>by show Option.map _ (m' b)=_;rw[hext b];rfl
 have hle:m.le m2:=⟨λb x hb=>by show m' b=_;rw[hext b];exact hb,λk i v hv=>by
  show(if own k then _ else _)=_;by_cases h:own k
  ·rw[ygX h];exact hv
  ·rw[yfX h];refine hg.zle k i v ?_
   exact zaW k i v hv⟩
 have hkeep:∀k,k<w.heap.size->w'.heap[k]? =w.heap[k]? :=λk hk=>hg.fr.block k hk λb o hb=>by cases hb
 refine⟨y,m2,rfl,⟨yhX _,λb _=>hext b,⟨λb o hb=> ?_,λb b' o o' hb hb' hne=> ?_,λk i v hv=> ?_,hok.tbs (λk hk _=>hkeep k hk) λb o hb=> .inl ⟨b,o,hb,hblk b⟩⟩,⟨hg.fr.os,hg.fr.tape,hg.fr.output,hg.fr.size,λk hk _=>hkeep k hk⟩,λb o hb=> .inl ⟨b,o,hb,hblk b⟩,hle.z,λk i v hv=> ?_⟩,zjx hv hy⟩
 ·refine yMZ (hok.has b o hb) hle λk hk=> ?_;obtain⟨k',hk',hlt⟩:=y5X (hok.has b o hb);rw[hk] at hk';cases hk';exact hkeep k hlt
 ·rw[hblk,hblk];exact hok.apart b b' o o' hb hb' hne
 ·have hv:(if own k then m.z k i else m'.z k i)=some v:=hv;by_cases h:own k
  ·rw[ygX h] at hv;obtain⟨b,o,_,h2,h3⟩:=h;exact absurd h3 ((hok.fz k i v hv).2 b o h2)
  ·rw[yfX h] at hv;refine⟨(hg.ok.fz k i v hv).1,λb o hb=> ?_⟩;rw[hblk]
   rcases hg.znew k i v hv with h1|⟨b0,o0,h0,_⟩|h1
   ·rcases zat h1 with h2|⟨h2,_⟩
    ·exact(hok.fz k i v h2).2 b o hb
    ·exact absurd h2 h
   ·cases h0
   ·obtain⟨k',hk',hlt⟩:=y5X (hok.has b o hb);rw[hk'];intro e;cases e;omega
 ·have hv:(if own k then m.z k i else m'.z k i)=some v:=hv;by_cases h:own k
  ·rw[ygX h] at hv;exact .inl hv
  ·rw[yfX h] at hv
   rcases hg.znew k i v hv with h1|⟨b0,o0,h0,_⟩|h1
   ·rcases zat h1 with h2|⟨h2,_⟩
    ·exact .inl h2
    ·exact absurd h2 h
   ·cases h0
   ·exact .inr (.inr h1)
theorem KCall.lend {P:Program} {f:FuncId} {args args1:List AV} {s:St} {K:KC} {v:AV} (z:List Nat) (hc:PureC P f args1 v) (hv:plainA v=true) (hw:Wzl s.h z args1 args) (hk:K v s):KCall P f args s K:=⟨v,_,CallOk.lend z hw hc hv,yhX _,hk⟩
theorem KCall.ln {P:Program} {f:FuncId} {args args1:List AV} {s:St} {K:KC} {v:AV} (z:List Nat) (hc:PureC P f args1 v) (hw:Wzl s.h z args1 args) (hk:K v s) (hv:plainA v=true:=by rfl):KCall P f args s K:=KCall.lend z hc hv hw hk
theorem DCall.lend {P:Program} {f:FuncId} {args args1:List AV} {light:AV->Prop} {heavy:AV->St->Prop} {s:St} {v:AV} (z:List Nat) (hc:PureC P f args1 v) (hv:plainA v=true) (hw:Wzl s.h z args1 args) (hk:heavy v s):DCall P f args light heavy s:=⟨.inr ⟨v,_,CallOk.lend z hw hc hv,hk⟩⟩
theorem DCall.ln {P:Program} {f:FuncId} {args args1:List AV} {light:AV->Prop} {heavy:AV->St->Prop} {s:St} {v:AV} (z:List Nat) (hc:PureC P f args1 v) (hw:Wzl s.h z args1 args) (hk:heavy v s) (hv:plainA v=true:=by rfl):DCall P f args light heavy s:=DCall.lend z hc hv hw hk
end Go.Ex
namespace Go.Ex
open Go
noncomputable def famC :{f:Nat->Nat->Nat//∀a j,f a j=a+j}:=Classical.choice ⟨⟨λa j=>a+j,λ_ _=>rfl⟩⟩
noncomputable def fam (a j:Nat):Nat:=famC.1 a j
theorem zbk (a j:Nat):fam a j=a+j:=famC.2 a j
def zaw (a b:Nat) (g:Nat->Option AO) (rows:List AO):St:=⟨.f a b g (zp7 0 .e rows),b⟩
theorem zdf (a b:Nat) (g:Nat->Option AO) (rows:List AO) (k:Nat):(zaw a b g rows).h.get k=if a<=k/\k<b then g (k-a) else rows[k]? :=by
 show(T.f a b g (zp7 0 .e rows)).get k=_;rw[yAZ,show(zp7 0 .e rows).get k=rows[k]? from zaL rows k]
theorem zah {a b j:Nat} {g:Nat->Option AO} {t:T AO} (h:j<b-a):(T.f a b g t).get (fam a j)=g j:=by
 rw[zbk,yAZ,ygX ⟨zo,zo⟩,yLX]
theorem zbT {a b j:Nat} {g:Nat->Option AO} {t:T AO} {x:Option AO} (h:j<b-a):(T.f a b g t).put (fam a j) x= .f a b (zpD g j x) t:=by
 rw[zbk,T.put_f,ygX ⟨zo,zo⟩,yLX]
def zaZ (o:AO):Prop:=match o with| .row c _ _=>cont.contL c=true| .iter _ _=>True
noncomputable def ovG (base:Nat):List (Nat×Nat)->Nat->Nat
 |[],j=>fam base j
 |p::l,j=>match Nat.beq j p.1 with|true=>p.2|false=>ovG base l j
noncomputable def zbQ (a b base:Nat) (ov:List (Nat×Nat)) (r:List Nat) (k:Nat):Option Nat:=match inR a b k with|true=>some (ovG base ov (Nat.sub k a))|false=>nth r k
theorem zfm {base:Nat} {j:Nat}:∀{ov:List (Nat×Nat)},(ovG base ov j=fam base j/\∀p∈ov,j≠p.1)∨∃(i:Nat) (p:Nat×Nat),ov[i]? =some p/\j=p.1/\ovG base ov j=p.2
 |[]=> .inl ⟨rfl,λp hp=>by cases hp⟩
 |p::l=>by
  cases h:Nat.beq j p.1 with
  |true=>exact .inr ⟨0,p,rfl,yjX h,by show(match Nat.beq j p.1 with|true=>p.2|false=>ovG base l j)=_;rw[h]⟩
  |false=>
   have hne:j≠p.1:=λe=>by rw[e,ylY] at h;cases h
   have e1:ovG base (p::l) j=ovG base l j:=by show(match Nat.beq j p.1 with|true=>p.2|false=>ovG base l j)=_;rw[h]
   rcases zfm (base:=base) (j:=j) (ov:=l) with⟨h1,h2⟩|⟨i,q,h1,h2,h3⟩
   ·exact .inl ⟨e1.trans h1,λq hq=>by rcases yAX.1 hq with rfl|hq;exact hne;exact h2 q hq⟩
   ·exact .inr ⟨i+1,q,by simpa using h1,h2,e1.trans h3⟩
def zcL (h:T AO) (z:List Nat) (R:Nat->Option Nat):List AO->List Nat->Prop
 |[],r=>match r with|[]=>True|_=>False
 |o1::l,r=>match r with
  |b0::r=>match h.get b0 with|some o=>WOG h z R o1 o/\zcL h z R l r|none=>False
  |[]=>False
theorem zfd {h:T AO} {z:List Nat} {R:Nat->Option Nat}:∀{rows:List AO} {r:List Nat},zcL h z R rows r->rows.length=r.length/\∀(b:Nat) (o1:AO),rows[b]? =some o1->∃b0 o,r[b]? =some b0/\h.get b0=some o/\WOG h z R o1 o
 |[],r,hw=>by
  unfold zcL at hw;split at hw
  ·exact⟨rfl,λb o1 hb=>by simp at hb⟩
  ·exact hw.elim
 |o1::l,r,hw=>by
  unfold zcL at hw;split at hw
  ·split at hw
   ·rename_i ho;obtain⟨h1,h2⟩:=hw;obtain⟨h3,h4⟩:=zfd h2;refine⟨by simp[h3],λb o' hb=> ?_⟩
    cases b with
    |zero=>simp at hb;subst hb;exact⟨_,_,rfl,ho,h1⟩
    |succ b=>simpa using h4 b o' (by simpa using hb)
   ·exact hw.elim
  ·exact hw.elim
def zsT (a b:Nat):List Nat->Bool
 |[]=>true
 |k::l=>match inR a b k with|true=>false|false=>zsT a b l
theorem zfW {a b:Nat}:∀{l:List Nat},zsT a b l=true->∀k∈l,¬(a<=k/\k<b)
 |[],_,k,hk=>by cases hk
 |x::l,h,k,hk=>by
  unfold zsT at h;split at h
  ·cases h
  ·rename_i hx
   rcases yAX.1 hk with rfl|hk
   ·intro h2;rw[inR_iff.2 h2] at hx;cases hx
   ·exact zfW h k hk
def zlY :List (Nat×Nat)->List Nat
 |[]=>[]
 |p::l=>p.2::zlY l
theorem zgL :∀{l:List (Nat×Nat)} {i:Nat} {p:Nat×Nat},l[i]? =some p->(zlY l)[i]? =some p.2
 |[],i,p,h=>by simp at h
 |q::l,0,p,h=>by simp at h;subst h;rfl
 |q::l,i+1,p,h=>by simpa[zlY] using zgL (l:=l) (by simpa using h)
theorem zjb :∀(l:List (Nat×Nat)),(zlY l).length=l.length
 |[]=>rfl
 |_::l=>by simp[zlY,zjb l]
def okG (n0 a b base:Nat) (z:List Nat) (ov:List (Nat×Nat)) (r:List Nat):Bool:=
 match zck z (zlY ov++r) with
 |true=>match zsT base (Nat.add base (Nat.sub b a)) (zlY ov++(r++z)) with
  |true=>match zsq 0 n0 r with
   |true=>match Nat.ble r.length a with|true=>Nat.ble a b|false=>false
   |false=>false
  |false=>false
 |false=>false
theorem znH {n0 a b base:Nat} {z:List Nat} {ov:List (Nat×Nat)} {r:List Nat} (h:okG n0 a b base z ov r=true):zck z (zlY ov++r)=true/\zsT base (base+(b-a)) (zlY ov++(r++z))=true/\zsq 0 n0 r=true/\r.length<=a/\a<=b:=by
 unfold okG at h;split at h
 ·rename_i h1;split at h
  ·rename_i h2;split at h
   ·rename_i h3;split at h
    ·rename_i h4;exact⟨h1,h2,h3,ynX h4,ynX h⟩
    ·cases h
   ·cases h
  ·cases h
 ·cases h
theorem Ren.ofG {n0 a b base:Nat} {h:T AO} {z:List Nat} {ov:List (Nat×Nat)} {r:List Nat} {g1:Nat->Option AO} {rows:List AO} (hg:okG n0 a b base z ov r=true) (hrows:zcL h z (zbQ a b base ov r) rows r)
  (hfam:∀j o1,j<b-a->g1 j=some o1->(∀p∈ov,j≠p.1)->h.get (fam base j)=some o1/\zaZ o1)
  (hov:∀p∈ov,∀o1,p.1<b-a->g1 p.1=some o1->∃o,h.get p.2=some o/\WOG h z (zbQ a b base ov r) o1 o):Ren h z (zbQ a b base ov r) (zaw a b g1 rows).h.get:=by
 obtain⟨hap,hout,hlow,hlen,hab⟩:=znH hg;obtain⟨hinj,hz⟩:=zcR hap;have hout:=zfW hout;obtain⟨hl,hget⟩:=zfd hrows
 have rin:∀k,a<=k/\k<b->zbQ a b base ov r k=some (ovG base ov (k-a)):=λk hk=>by unfold zbQ;rw[inR_iff.2 hk];rfl
 have rout:∀k,¬(a<=k/\k<b)->zbQ a b base ov r k=r[k]? :=λk hk=>by unfold zbQ;rw[zhP hk,zbc]
 have zout:∀k,base<=k/\k<base+(b-a)->k∉z:=λk hk hm=>hout k (by simp[hm]) hk;refine⟨λk o1 hk=> ?_,λk k' o o' k0 hk hk' h1 h2=> ?_⟩
 ·rw[zdf] at hk;by_cases hr:a<=k/\k<b
  ·rw[ygX hr] at hk;rw[rin k hr]
   rcases zfm (base:=base) (j:=k-a) (ov:=ov) with⟨e,h2⟩|⟨i,p,hp,h2,e⟩
   ·obtain⟨h3,h4⟩:=hfam (k-a) o1 zo hk h2;refine⟨_,o1,rfl,by rw[e];exact h3,by rw[e,zbk];exact zout _ ⟨zo,zo⟩,?_⟩
    unfold WOG zaZ at*
    cases o1 with
    |row c e q=>exact⟨rfl,rfl, .same rfl h4⟩
    |iter s p=>exact⟨rfl,rfl⟩
   ·obtain⟨o,h3,h4⟩:=hov p (yHX hp) o1 zo (by rw[←h2];exact hk);refine⟨_,o,rfl,by rw[e];exact h3,?_,h4⟩;rw[e];exact hz _ (yUX _ (yHX (zgL hp)))
  ·rw[yfX hr] at hk;rw[rout k hr];obtain⟨b0,o,h1,h2,h3⟩:=hget k o1 hk;exact⟨b0,o,h1,h2,hz _ (y6X _ (yHX h1)),h3⟩
 ·have hr:∀k,(a<=k/\k<b)∨¬(a<=k/\k<b):=λk=>Classical.em _
  have src:∀k,zbQ a b base ov r k=some k0->(∃j,k=a+j/\j<b-a/\k0=fam base j)∨(∃(j i:Nat) (p:Nat×Nat),k=a+j/\ov[i]? =some p/\j=p.1/\k0=p.2/\a<=k)∨(r[k]? =some k0/\¬(a<=k/\k<b)):=λk hk=>by
   rcases hr k with h|h
   ·rw[rin k h] at hk;cases hk
    rcases zfm (base:=base) (j:=k-a) (ov:=ov) with⟨e,h2⟩|⟨i,p,hp,h2,e⟩
    ·exact .inl ⟨k-a,zo,zo,e⟩
    ·exact .inr (.inl ⟨k-a,i,p,zo,hp,h2,e,h.1⟩)
   ·rw[rout k h] at hk;exact .inr (.inr ⟨hk,h⟩)
  have oi:∀(i:Nat) (p:Nat×Nat),ov[i]? =some p->(zlY ov++r)[i]? =some p.2:=λi p hp=>by
   rw[yIX]
   ·exact zgL hp
   ·rw[zjb];exact(y7X.1 hp).1
  have ri:∀k:Nat,r[k]? =some k0->(zlY ov++r)[(zlY ov).length+k]? =some k0:=λk hk=>by
   rw[yuX zo,yLX];exact hk
  have lo:∀(i:Nat) (p:Nat×Nat),ov[i]? =some p->i<(zlY ov).length:=λi p hp=>by rw[zjb];exact(y7X.1 hp).1
  have fo:∀j,j<b-a->¬(fam base j∈zlY ov++(r++z)):=λj hj hm=>hout _ hm ⟨by rw[zbk];omega,by rw[zbk];omega⟩;have om:∀(i:Nat) (p:Nat×Nat),ov[i]? =some p->p.2∈zlY ov++(r++z):=λi p hp=>yUX _ (yHX (zgL hp));have rm:∀k:Nat,r[k]? =some k0->k0∈zlY ov++(r++z):=λk hk=>y6X _ (yUX _ (yHX hk))
  rcases src k h1 with⟨j,e1,hj,e2⟩|⟨j,i,p,e1,hp,e2,e3,_⟩|⟨h3,h4⟩
  ·rcases src k' h2 with⟨j',e1',hj',e2'⟩|⟨j',i',p',e1',hp',e2',e3',_⟩|⟨h3',h4'⟩
   ·rw[e2',zbk,zbk] at e2;omega
   ·exact absurd (om i' p' hp') (by rw[←e3',e2];exact fo j hj)
   ·exact absurd (rm k' h3') (by rw[e2];exact fo j hj)
  ·rcases src k' h2 with⟨j',e1',hj',e2'⟩|⟨j',i',p',e1',hp',e2',e3',_⟩|⟨h3',h4'⟩
   ·exact absurd (om i p hp) (by rw[←e3,e2'];exact fo j' hj')
   ·have:=hinj i i' k0 (by rw[oi i p hp,e3]) (by rw[oi i' p' hp',e3']);subst this;rw[hp] at hp';cases hp';omega
   ·have:=hinj i _ k0 (by rw[oi i p hp,e3]) (ri k' h3');have:=lo i p hp;omega
  ·rcases src k' h2 with⟨j',e1',hj',e2'⟩|⟨j',i',p',e1',hp',e2',e3',_⟩|⟨h3',h4'⟩
   ·exact absurd (rm k h3) (by rw[e2'];exact fo j' hj')
   ·have:=hinj i' _ k0 (by rw[oi i' p' hp',e3']) (ri k h3);have:=lo i' p' hp';omega
   ·have:=hinj _ _ k0 (ri k h3) (ri k' h3');omega
theorem zjp {n0 a b base:Nat} {z:List Nat} {ov:List (Nat×Nat)} {r:List Nat} (hg:okG n0 a b base z ov r=true):(∀k,k<n0->zbQ a b base ov r k=some k)/\(∀k,b<=k->zbQ a b base ov r k=none)/\n0<=b:=by
 obtain⟨hap,hout,hlow,hlen,hab⟩:=znH hg;have hlow:=zjO hlow
 have hn0:n0<=r.length:=by
  cases yeY r.length n0 with
  |inl hlt=>have:=hlow r.length hlt;simp at this
  |inr h=>exact h
 refine⟨λk hk=> ?_,λk hk=> ?_,zo⟩
 ·unfold zbQ;rw[zhP zo,zbc];have:=hlow k hk;rw[ylX] at this;exact this
 ·unfold zbQ;rw[zhP zo,zbc,yyX zo]
theorem Weak.ofG {n0 a b base B2:Nat} {t:Tm} {s:St} {g:Nat->Option AO} {th:T AO} (r z:List Nat) (ov:List (Nat×Nat)) {sl:List (Nat×AV)} {n:Nat} {g1:Nat->Option AO} {rows:List AO} (hn:t.n=n) (hh:s.h= .f base B2 g th) (hB:Nat.beq (Nat.sub B2 base) (Nat.sub b a)=true) (hg:okG n0 a b base z ov r=true)
  (hrows:zcL s.h z (zbQ a b base ov r) rows r) (hfam:∀j o1,g1 j=some o1->(∀p∈ov,j≠p.1)->g j=some o1/\zaZ o1)
  (hov:∀p∈ov,∀o1,g1 p.1=some o1->∃o,s.h.get p.2=some o/\WOG s.h z (zbQ a b base ov r) o1 o) (hsl:zhe s.h z (zbQ a b base ov r) t sl):Weak n0 t s (zag sl n) (zaw a b g1 rows):=by
 obtain⟨h1,h2,h3⟩:=zjp hg;refine Weak.gen hn (Ren.ofG hg hrows (λj o1 hj ho hp=> ?_) λp hp o1 _ ho=>hov p hp o1 ho) h1 h2 h3 hsl;obtain⟨h4,h5⟩:=hfam j o1 ho hp;have hB:B2-base=b-a:=yjX hB;rw[hh,zah zo];exact⟨h4,h5⟩
theorem wG {n0 a b base B2:Nat} {t:Tm} {s:St} {g:Nat->Option AO} {th:T AO} (r z:List Nat) (ov:List (Nat×Nat)) {sl:List (Nat×AV)} {n:Nat} {g1:Nat->Option AO} {rows:List AO}
  (hrows:zcL s.h z (zbQ a b base ov r) rows r) (hfam:∀j o1,g1 j=some o1->(∀p∈ov,j≠p.1)->g j=some o1/\zaZ o1:=by exact(λj o1 h _=>⟨h,yUZ _ _ j o1 h⟩))
  (hov:∀p∈ov,∀o1,g1 p.1=some o1->∃o,s.h.get p.2=some o/\WOG s.h z (zbQ a b base ov r) o1 o:=by exact(λq hq=>(by cases hq))) (hsl:zhe s.h z (zbQ a b base ov r) t sl:=by(repeat' first|exact zT|exact rfl|(intro _ _;exact rfl)|refine zA ?_ ?_))
  (hn:t.n=n:=by rfl) (hh:s.h= .f base B2 g th:=by rfl) (hB:Nat.beq (Nat.sub B2 base) (Nat.sub b a)=true:=by rfl) (hg:okG n0 a b base z ov r=true:=by rfl):Weak n0 t s (zag sl n) (zaw a b g1 rows):=Weak.ofG r z ov hn hh hB hg hrows hfam hov hsl
def HG (P:Program) (n0 a b:Nat) (f:FuncId) (args0:List AV) (g0:Nat->Option AO) (rows0:List AO) (v1:AV) (g1:Nat->Option AO) (rows1:List AO):Prop:=
 ∀m w args',Rl m args0 args'->Ok m (zaw a b g0 rows0).h.get w->Above m b->Calls P f args'.toArray w λe w'=>
  ∃y m',e= .returned y/\Gk n0 (zaw a b g0 rows0).h.get (zaw a b g1 rows1).h.get m m' w w'/\R1 m' v1 y/\Above m' b
structure HGRet (n0 a b:Nat) (v1:AV) (g1:Nat->Option AO) (rows1:List AO) (v:AV) (s:St):Prop where
 h:Weak n0 ⟨zcU [(0,v)],1⟩ s (zag [(0,v1)] 1) (zaw a b g1 rows1)
theorem HG.of {P:Program} (hmix:P.follows .mixedOrders=true) {n0 a b:Nat} {f:FuncId} {args0:List AV} {g0 g1:Nat->Option AO} {rows0 rows1:List AO} {v1:AV} (hn:n0<=b) (h:zo0 P n0 f args0 (zaw a b g0 rows0) (HGRet n0 a b v1 g1 rows1)):HG P n0 a b f args0 g0 rows0 v1 g1 rows1:=by
 intro m w args' hR hok hab;unfold zo0 at h;split at h
 ·exact h.elim
 ·rename_i fn hfn;split at h
  ·exact h.elim
  ·rename_i c hcb;have h:=zcI (yaY (K:=λa'=>startK ⟨zf2 0 .e args0,Nat.add a' (Nat.sub fn.ntmps a')⟩ (zaw a b g0 rows0) λt s=>zfG P n0 c t s λx t s=>match x with| .exit _=>False|_=>zqj P t s fn.results.toList (HGRet n0 a b v1 g1 rows1)) h);refine calls_of_wp hfn hcb (wp_mono (zbJ hmix c h m _ w (Fit.start hR fn.ntmps) rfl hok hab hn) ?_);rintro e a' w' ⟨x,t',s',m',rfl,hk,hf',hd',hg,ha',hn'⟩
   have hk':zqj P t' s' fn.results.toList (HGRet n0 a b v1 g1 rows1):=by
    cases x with
    |normal=>exact hk
    |ret=>exact hk
    |exit i=>exact hk.elim
   have hx:xtE x= .normal∨xtE x= .ret:=by
    cases x with
    |normal=>exact .inl rfl
    |ret=>exact .inr rfl
    |exit i=>exact hk.elim
   obtain⟨l,hl,⟨hwk⟩⟩:=zbA hk';obtain⟨y,hy,hRy⟩:=zcB (fn:=fn) hf' hg.ok hl
   have hfit:Fit m' ⟨zcU [(0,zbn l)],1⟩ {tmps:= #[y],defers:=[]}:=by
    refine⟨rfl,λi=> ?_⟩;show R1 m' (match(zcU [(0,zbn l)]).get i with|some v=>v|none=> .any) _
    have:(zcU [(0,zbn l)]).get i=if i=0 then some (zbn l) else none:=by
     show((T.e:T AV).put 0 _).get i=_;rw[ydY];split<;>rfl
    rw[this];by_cases h0:i=0
    ·subst h0;rw[ygX rfl];exact hRy
    ·rw[yfX h0];trivial
   obtain⟨m2,hf2,hg2,ha2,hn2⟩:=hwk m' _ w' hfit hg.ok ha' hn'
   have hv1:R1 m2 v1 y:=by
    have:=hf2.r 0
    have e:(zag [(0,v1)] 1).get 0=v1:=by
     show(match(((T.e:T AV).put 0 (some v1)).get 0) with|some v=>v|none=> .any)=v1;rw[ydY,ygX rfl]
    rw[e] at this;exact this
   have fin:∃y' m2,Ending.returned y= .returned y'/\Gk n0 (zaw a b g0 rows0).h.get (zaw a b g1 rows1).h.get m m2 w w'/\R1 m2 v1 y'/\Above m2 b:=⟨y,m2,rfl,hg.trans hg2,hv1,ha2⟩
   rcases hx with hx|hx
   ·rw[hx];exact⟨hd',y,hy,fin⟩
   ·rw[hx];exact⟨hd',y,hy,fin⟩
noncomputable def zdF (a b n n0:Nat) (r:List Nat) (k:Nat):Nat:=match inR a b k with|true=>fam n (Nat.sub k a)|false=>rho r n0 (Nat.add n (Nat.sub b a)) k
theorem znu {a b n n0:Nat} {r:List Nat} {j:Nat} (h:j<b-a):zdF a b n n0 r (fam a j)=fam n j:=by
 unfold zdF;rw[zbk a j,inR_iff.2 ⟨zo,zo⟩,show Nat.sub (a+j) a=j from yLX _ _]
theorem zqw {base j:Nat}:ovG base [] j=fam base j:=rfl
theorem zsj {a b base:Nat} {ov:List (Nat×Nat)} {r:List Nat} {j:Nat} (h:j<b-a) (hp:∀p∈ov,j≠p.1):RD (zbQ a b base ov r) (fam a j)=fam base j:=by
 unfold RD zbQ;rw[zbk a j,inR_iff.2 ⟨zo,zo⟩,show Nat.sub (a+j) a=j from yLX _ _]
 rcases zfm (base:=base) (j:=j) (ov:=ov) with⟨e,_⟩|⟨i,p,h1,h2,_⟩
 ·exact e
 ·exact absurd h2 (hp p (yHX h1))
theorem zyK {a b base:Nat} {ov:List (Nat×Nat)} {r:List Nat} {j n:Nat} (h:j<b-a):RD (zbQ a b base ((j,n)::ov) r) (fam a j)=n:=by
 unfold RD zbQ;rw[zbk a j,inR_iff.2 ⟨zo,zo⟩,show Nat.sub (a+j) a=j from yLX _ _];show ovG base ((j,n)::ov) j=n;unfold ovG;rw[ylY]
theorem zxS {a b base:Nat} {ov:List (Nat×Nat)} {r:List Nat} {i j n k:Nat} (h:j<b-a) (hij:j≠i):RD (zbQ a b base ((i,k)::(j,n)::ov) r) (fam a j)=n:=by
 unfold RD zbQ;rw[zbk a j,inR_iff.2 ⟨zo,zo⟩,show Nat.sub (a+j) a=j from yLX _ _];show ovG base ((i,k)::(j,n)::ov) j=n;unfold ovG
 cases e:Nat.beq j i with
 |true=>exact absurd (yjX e) hij
 |false=>unfold ovG;rw[ylY]
theorem zlT {a b base:Nat} {ov:List (Nat×Nat)} {r:List Nat} {j:Nat} (h:j<b-a):RS (zbQ a b base ov r) (fam a j):=by
 unfold RS zbQ;rw[zbk a j,inR_iff.2 ⟨zo,zo⟩];rfl
def ztZ (a b n0:Nat) (r:List Nat) (g1:Nat->Option AO) (rows2:List AO) (s:St):St:=
 match s with
 |⟨h,n⟩=>match h with
  | .f A B _ t=>⟨.f n (Nat.add n (Nat.sub b a)) g1 (.f A B (λ_=>none) (zsP r n0 (Nat.add n (Nat.sub b a)) 0 rows2 (zb4 t r))),Nat.add (Nat.add n (Nat.sub b a)) (Nat.sub a n0)⟩
  |h=>⟨h,n⟩
def okL (a b n0 A B n:Nat) (r:List Nat) (l1:Nat):Bool:=
 match okG 0 a b A [] [] r with
 |true=>match Nat.beq (Nat.sub B A) (Nat.sub b a) with
  |true=>match Nat.ble B n with
   |true=>match Nat.ble n0 r.length with|true=>Nat.ble l1 a|false=>false
   |false=>false
  |false=>false
 |false=>false
theorem CallOk.liftG {P:Program} {n0 a b A B n:Nat} {f:FuncId} {args0 args:List AV} {g0 g1:Nat->Option AO} {t:T AO} {rows0 rows1:List AO} {v1:AV} (r:List Nat) (v2:AV) (rows2:List AO) (hc:HG P n0 a b f args0 g0 rows0 v1 g1 rows1) (hL:okL a b n0 A B n r rows1.length=true)
  (hc0:∀j o,g0 j=some o->zaZ o) (hc1:∀j o,g1 j=some o->zaZ o)
  (hrows:zcL (.f A B g0 t) [] (zbQ a b A [] r) rows0 r) (hargs:zgy (RS (zbQ a b A [] r)) args0/\Wvl (.f A B g0 t) [] (RD (zbQ a b A [] r)) args0 args)
  (hv:Rn (zdF a b n n0 r) v1 v2) (hlen:rows2.length=rows1.length) (hrows2:zkz (zdF a b n n0 r) rows1 rows2):CallOk P f args ⟨.f A B g0 t,n⟩ v2 (ztZ a b n0 r g1 rows2 ⟨.f A B g0 t,n⟩):=by
 unfold okL at hL;split at hL
 ·rename_i hg;split at hL
  ·rename_i hB;split at hL
   ·rename_i hBn;split at hL
    ·rename_i hn0;have hB:B-A=b-a:=yjX hB;have hBn:B<=n:=ynX hBn;have hn0:n0<=r.length:=ynX hn0;have hl1:rows1.length<=a:=ynX hL;obtain⟨hap,hout,_,hlr,hab⟩:=znH hg;have hout:=zfW hout
     have rout:∀k,¬(a<=k/\k<b)->zbQ a b A [] r k=r[k]? :=λk hk=>by unfold zbQ;rw[zhP hk,zbc]
     refine CallOk.liftGen (z:=[]) (R:=zbQ a b A [] r) (nA:=b) (zdF a b n n0 r) (λB'=>if B'<n+(b-a) then a+(B'-n) else n0+(B'-(n+(b-a)))) hc
      (Ren.ofG hg hrows (λj o1 hj ho _=>⟨by show(T.f A B g0 t).get _=_;rw[zah zo];exact ho,hc0 j o1 ho⟩) (λp hp=>by cases hp)) (zjp hg).2.1 hargs ?_ (λk hk=> ?_) hv (λK o hK=> ?_)
     ·show n<=n+(b-a)+(a-n0);omega
     ·by_cases hr:a<=k/\k<b
      ·refine .inl ?_
       have e:zdF a b n n0 r k=n+(k-a):=by unfold zdF;rw[inR_iff.2 hr];exact zbk _ _
       rw[e];refine⟨ytZ _ _,?_,?_⟩
       ·show n+(k-a)<n+(b-a)+(a-n0);omega
       ·show(if n+(k-a)<n+(b-a) then a+(n+(k-a)-n) else _)=k;rw[ygX zo];omega
      ·have hk2:k<a:=zo
       have e:zdF a b n n0 r k=rho r n0 (n+(b-a)) k:=by unfold zdF;rw[zhP hr];rfl
       rw[e];unfold rho
       cases hlt:Nat.blt k n0 with
       |true=>
        have hlt:=zby hlt;refine .inr ⟨hlt,?_⟩;rw[rout k hr,ysX zo];show some _=some (rn r k);unfold rn;rw[zbc,ysX zo]
       |false=>
        have hge:n0<=k:=yNZ λh=>by rw[show Nat.blt k n0=true from ysY h] at hlt;cases hlt
        refine .inl ⟨?_,?_,?_⟩
        ·show n<=n+(b-a)+(k-n0);omega
        ·show n+(b-a)+(k-n0)<n+(b-a)+(a-n0);omega
        ·show(if n+(b-a)+(k-n0)<n+(b-a) then _ else n0+(n+(b-a)+(k-n0)-(n+(b-a))))=k;rw[yfX zo];omega
     ·have hK:(T.f n (n+(b-a)) g1 (.f A B (λ_=>none) (zsP r n0 (n+(b-a)) 0 rows2 (zb4 t r)))).get K=some o:=hK;rw[yAZ] at hK;split at hK
      ·rename_i hin;refine .inl ⟨a+(K-n),o,?_,?_,?_⟩
       ·rw[zdf,ygX ⟨zo,zo⟩,yLX];exact hK
       ·have:=hc1 _ o hK;unfold RnO;unfold zaZ at this
        cases o with
        |row c e q=>exact⟨rfl,rfl, .inr ⟨rfl,this⟩⟩
        |iter s p=>exact⟨rfl,rfl⟩
       ·unfold zdF;rw[inR_iff.2 ⟨zo,zo⟩,zbk]
        show K=n+(a+(K-n)-a)
        omega
      ·rw[yAZ] at hK;split at hK
       ·cases hK
       ·rename_i hnAB
        rcases zen hK with⟨j,h1,h2⟩|h1
        ·obtain⟨o1,h3,h4⟩:=zfM hrows2 h1;have hj:j<rows1.length:=(y7X.1 h3).1;refine .inl ⟨j,o1,?_,h4,?_⟩
         ·rw[zdf,yfX zo];exact h3
         ·rw[h2,ylX];unfold zdF;rw[zhP zo];rfl
        ·obtain⟨h2,h3⟩:=zaG h1;refine .inr ⟨?_,by simp,λk o0 h0 e=> ?_⟩
         ·show(T.f A B g0 t).get K=_;rw[yAZ,yfX hnAB];exact h2
         ·by_cases hr:a<=k/\k<b
          ·unfold zbQ at e;rw[inR_iff.2 hr] at e
           have e:ovG A [] (k-a)=K:=by injection e
           rw[zqw,zbk] at e;exact hnAB ⟨zo,zo⟩
          ·rw[rout k hr] at e;exact h3 (yHX e)
    ·cases hL
   ·cases hL
  ·cases hL
 ·cases hL
theorem KCall.liftG {P:Program} {n0 a b A B n:Nat} {f:FuncId} {args0 args:List AV} {g0 g1:Nat->Option AO} {t:T AO} {rows0 rows1:List AO} {v1:AV} {K:KC} (r:List Nat) (v2:AV) (rows2:List AO) (hc:HG P n0 a b f args0 g0 rows0 v1 g1 rows1) (hL:okL a b n0 A B n r rows1.length=true)
  (hc0:∀j o,g0 j=some o->zaZ o) (hc1:∀j o,g1 j=some o->zaZ o)
  (hrows:zcL (.f A B g0 t) [] (zbQ a b A [] r) rows0 r) (hargs:zgy (RS (zbQ a b A [] r)) args0/\Wvl (.f A B g0 t) [] (RD (zbQ a b A [] r)) args0 args)
  (hv:Rn (zdF a b n n0 r) v1 v2/\rows2.length=rows1.length/\zkz (zdF a b n n0 r) rows1 rows2) (hk:(ztZ a b n0 r g1 rows2 ⟨.f A B g0 t,n⟩).nfK λs=>K v2 s):KCall P f args ⟨.f A B g0 t,n⟩ K:=by
 have hle:n<=(ztZ a b n0 r g1 rows2 ⟨.f A B g0 t,n⟩).n:=by show n<=n+(b-a)+(a-n0);omega
 exact⟨v2,_,CallOk.liftG r v2 rows2 hc hL hc0 hc1 hrows hargs hv.1 hv.2.1 hv.2.2,hle,yDY hk⟩
theorem DCall.liftG {P:Program} {n0 a b A B n:Nat} {f:FuncId} {args0 args:List AV} {g0 g1:Nat->Option AO} {t:T AO} {rows0 rows1:List AO} {v1:AV} {light:AV->Prop} {heavy:AV->St->Prop} (r:List Nat) (v2:AV) (rows2:List AO) (hc:HG P n0 a b f args0 g0 rows0 v1 g1 rows1) (hL:okL a b n0 A B n r rows1.length=true)
  (hc0:∀j o,g0 j=some o->zaZ o) (hc1:∀j o,g1 j=some o->zaZ o)
  (hrows:zcL (.f A B g0 t) [] (zbQ a b A [] r) rows0 r) (hargs:zgy (RS (zbQ a b A [] r)) args0/\Wvl (.f A B g0 t) [] (RD (zbQ a b A [] r)) args0 args)
  (hv:Rn (zdF a b n n0 r) v1 v2/\rows2.length=rows1.length/\zkz (zdF a b n n0 r) rows1 rows2) (hk:(ztZ a b n0 r g1 rows2 ⟨.f A B g0 t,n⟩).nfK λs=>heavy v2 s):DCall P f args light heavy ⟨.f A B g0 t,n⟩:=
 ⟨.inr ⟨v2,_,CallOk.liftG r v2 rows2 hc hL hc0 hc1 hrows hargs hv.1 hv.2.1 hv.2.2,yDY hk⟩⟩
theorem KCall.lG {P:Program} {n0 a b A B n:Nat} {f:FuncId} {args0 args:List AV} {g0 g1:Nat->Option AO} {t:T AO} {rows0 rows1:List AO} {v1:AV} {K:KC} (r:List Nat) (v2:AV) (rows2:List AO) (hc:HG P n0 a b f args0 g0 rows0 v1 g1 rows1) (hrows:zcL (.f A B g0 t) [] (zbQ a b A [] r) rows0 r) (h3:zkz (zdF a b n n0 r) rows1 rows2) (hk:(ztZ a b n0 r g1 rows2 ⟨.f A B g0 t,n⟩).nfK λs=>K v2 s) (hargs:zgy (RS (zbQ a b A [] r)) args0/\Wvl (.f A B g0 t) [] (RD (zbQ a b A [] r)) args0 args:=by(repeat' first|exact zT|exact rfl|(intro _ _;exact rfl)|refine zA ?_ ?_)) (h1:Rn (zdF a b n n0 r) v1 v2:=by(unfold Ex.Rn Ex.Rnl;trivial)) (h2:rows2.length=rows1.length:=by rfl) (hL:okL a b n0 A B n r rows1.length=true:=by rfl) (hc0:∀j o,g0 j=some o->zaZ o:=by exact yUZ _ _) (hc1:∀j o,g1 j=some o->zaZ o:=by exact yUZ _ _):KCall P f args ⟨.f A B g0 t,n⟩ K:=KCall.liftG r v2 rows2 hc hL hc0 hc1 hrows hargs ⟨h1,h2,h3⟩ hk
def zlu (g:Nat->Option AO) (rows:List AO):St:=⟨.f 0 200 g (zp7 200 .e rows),220⟩
theorem zg1 (g:Nat->Option AO) (rows:List AO) (k:Nat):(zlu g rows).h.get k=if k<200 then g k else rows[k-200]? :=by
 show(T.f 0 200 g (zp7 200 .e rows)).get k=_;rw[yAZ];by_cases h:k<200
 ·rw[ygX ⟨ymX _,h⟩,ygX h,Nat.sub_zero]
 ·rw[yfX zo,yfX h,zjh,ygX zo];cases rows[k-200]? <;>rfl
def zqm (r:List Nat) (k:Nat):Option Nat:=match Nat.blt k 200 with|true=>some k|false=>nth r (Nat.sub k 200)
theorem zph {a b:Nat} (h:¬a<b):Nat.blt a b=false:=by
 cases e:Nat.blt a b with
 |false=>rfl
 |true=>exact absurd (zby e) h
theorem zeR {r:List Nat} {k:Nat} (h:k<200):zqm r k=some k:=by unfold zqm;rw[zdl h]
theorem zfV {r:List Nat} {k:Nat} (h:¬k<200):zqm r k=r[k-200]? :=by unfold zqm;rw[zph h];exact zbc _ _
theorem RS_K {r:List Nat} {j:Nat} (h:j<200):RS (zqm r) (fam 0 j):=by unfold RS;rw[zbk,ylX,zeR h];rfl
theorem RD_K {r:List Nat} {j:Nat} (h:j<200):RD (zqm r) (fam 0 j)=fam 0 j:=by unfold RD;rw[zbk,ylX,zeR h]
def okK (n0:Nat) (z r:List Nat):Bool:=
 match zck z r with
 |true=>match zsT 0 200 (r++z) with
  |true=>match zsq 200 n0 r with|true=>Nat.ble r.length 20|false=>false
  |false=>false
 |false=>false
theorem zw9 {n0:Nat} {z r:List Nat} (h:okK n0 z r=true):zck z r=true/\zsT 0 200 (r++z)=true/\zsq 200 n0 r=true/\r.length<=20:=by
 unfold okK at h;split at h
 ·rename_i h1;split at h
  ·rename_i h2;split at h
   ·rename_i h3;exact⟨h1,h2,h3,ynX h⟩
   ·cases h
  ·cases h
 ·cases h
theorem Weak.ofK {n0 B:Nat} {t:Tm} {s:St} {g:Nat->Option AO} {th:T AO} (r z:List Nat) {sl:List (Nat×AV)} {n:Nat} {g1:Nat->Option AO} {rows:List AO} (hn:t.n=n) (hh:s.h= .f 0 B g th) (hB:Nat.beq B 200=true) (hg:okK n0 z r=true)
  (hrows:zcL s.h z (zqm r) rows r) (hfam:∀j o1,g1 j=some o1->g j=some o1/\zaZ o1) (hsl:zhe s.h z (zqm r) t sl):Weak (Nat.add 200 n0) t s (zag sl n) (zlu g1 rows):=by
 obtain⟨hap,hout,hlow,hlen⟩:=zw9 hg;obtain⟨hinj,hz⟩:=zcR hap;have hout:=zfW hout;have hlow:=zjO hlow;obtain⟨hl,hget⟩:=zfd hrows;have hB:=yjX hB;subst hB
 have hn0:n0<=r.length:=by
  cases yeY r.length n0 with
  |inl hlt=>have:=hlow r.length hlt;simp at this
  |inr h=>exact h
 refine Weak.gen hn ⟨λk o1 hk=> ?_,λk k' o o' k0 hk hk' h1 h2=> ?_⟩ (λk hk=> ?_) (λk hk=> ?_) (by show Nat.add 200 n0<=220;show 200+n0<=220;omega) hsl
 ·rw[zg1] at hk;by_cases hr:k<200
  ·rw[ygX hr] at hk;obtain⟨h3,h4⟩:=hfam k o1 hk;refine⟨k,o1,zeR hr,by rw[hh,yAZ,ygX ⟨ymX _,hr⟩,Nat.sub_zero];exact h3,λhm=>hout k (y6X _ hm) ⟨ymX _,hr⟩,?_⟩
   unfold WOG zaZ at*
   cases o1 with
   |row c e q=>exact⟨rfl,rfl, .same rfl h4⟩
   |iter s p=>exact⟨rfl,rfl⟩
  ·rw[yfX hr] at hk;obtain⟨b0,o,h1,h2,h3⟩:=hget _ o1 hk;exact⟨b0,o,(zfV hr).trans h1,h2,hz _ (yHX h1),h3⟩
 ·by_cases hr:k<200
  ·rw[zeR hr] at h1;cases h1;by_cases hr':k'<200
   ·rw[zeR hr'] at h2;cases h2;rfl
   ·rw[zfV hr'] at h2;exact absurd ⟨ymX _,hr⟩ (hout k (yUX _ (yHX h2)))
  ·rw[zfV hr] at h1;by_cases hr':k'<200
   ·rw[zeR hr'] at h2;cases h2;exact absurd ⟨ymX _,hr'⟩ (hout k' (yUX _ (yHX h1)))
   ·rw[zfV hr'] at h2;have:=hinj _ _ k0 h1 h2;omega
 ·have hk:k<200+n0:=hk;by_cases hr:k<200
  ·exact zeR hr
  ·have e:200+(k-200)=k:=zo;rw[zfV hr,hlow (k-200) zo,e]
 ·have hk:220<=k:=hk;rw[zfV zo,yyX zo]
def HK (P:Program) (n0:Nat) (f:FuncId) (args0:List AV) (g0:Nat->Option AO) (rows0:List AO) (v1:AV) (g1:Nat->Option AO) (rows1:List AO):Prop:=
 ∀m w args',Rl m args0 args'->Ok m (zlu g0 rows0).h.get w->Above m 220->Calls P f args'.toArray w λe w'=>
  ∃y m',e= .returned y/\Gk (Nat.add 200 n0) (zlu g0 rows0).h.get (zlu g1 rows1).h.get m m' w w'/\R1 m' v1 y/\Above m' 220
structure HKRet (n0:Nat) (v1:AV) (g1:Nat->Option AO) (rows1:List AO) (v:AV) (s:St):Prop where
 h:Weak (Nat.add 200 n0) ⟨zcU [(0,v)],1⟩ s (zag [(0,v1)] 1) (zlu g1 rows1)
theorem HK.of {P:Program} (hmix:P.follows .mixedOrders=true) {n0:Nat} {f:FuncId} {args0:List AV} {g0 g1:Nat->Option AO} {rows0 rows1:List AO} {v1:AV} (hn:n0<=20) (h:zo0 P (Nat.add 200 n0) f args0 (zlu g0 rows0) (HKRet n0 v1 g1 rows1)):HK P n0 f args0 g0 rows0 v1 g1 rows1:=by
 intro m w args' hR hok hab;unfold zo0 at h;split at h
 ·exact h.elim
 ·rename_i fn hfn;split at h
  ·exact h.elim
  ·rename_i c hcb;have h:=zcI (yaY (K:=λa'=>startK ⟨zf2 0 .e args0,Nat.add a' (Nat.sub fn.ntmps a')⟩ (zlu g0 rows0) λt s=>zfG P (Nat.add 200 n0) c t s λx t s=>match x with| .exit _=>False|_=>zqj P t s fn.results.toList (HKRet n0 v1 g1 rows1)) h);refine calls_of_wp hfn hcb (wp_mono (zbJ hmix c h m _ w (Fit.start hR fn.ntmps) rfl hok hab (by show 200+n0<=220;omega)) ?_);rintro e a' w' ⟨x,t',s',m',rfl,hk,hf',hd',hg,ha',hn'⟩
   have hk':zqj P t' s' fn.results.toList (HKRet n0 v1 g1 rows1):=by
    cases x with
    |normal=>exact hk
    |ret=>exact hk
    |exit i=>exact hk.elim
   have hx:xtE x= .normal∨xtE x= .ret:=by
    cases x with
    |normal=>exact .inl rfl
    |ret=>exact .inr rfl
    |exit i=>exact hk.elim
   obtain⟨l,hl,⟨hwk⟩⟩:=zbA hk';obtain⟨y,hy,hRy⟩:=zcB (fn:=fn) hf' hg.ok hl
   have hfit:Fit m' ⟨zcU [(0,zbn l)],1⟩ {tmps:= #[y],defers:=[]}:=by
    refine⟨rfl,λi=> ?_⟩;show R1 m' (match(zcU [(0,zbn l)]).get i with|some v=>v|none=> .any) _
    have:(zcU [(0,zbn l)]).get i=if i=0 then some (zbn l) else none:=by
     show((T.e:T AV).put 0 _).get i=_;rw[ydY];split<;>rfl
    rw[this];by_cases h0:i=0
    ·subst h0;rw[ygX rfl];exact hRy
    ·rw[yfX h0];trivial
   obtain⟨m2,hf2,hg2,ha2,hn2⟩:=hwk m' _ w' hfit hg.ok ha' hn'
   have hv1:R1 m2 v1 y:=by
    have:=hf2.r 0
    have e:(zag [(0,v1)] 1).get 0=v1:=by
     show(match(((T.e:T AV).put 0 (some v1)).get 0) with|some v=>v|none=> .any)=v1;rw[ydY,ygX rfl]
    rw[e] at this;exact this
   have fin:∃y' m2,Ending.returned y= .returned y'/\Gk (Nat.add 200 n0) (zlu g0 rows0).h.get (zlu g1 rows1).h.get m m2 w w'/\R1 m2 v1 y'/\Above m2 220:=⟨y,m2,rfl,hg.trans hg2,hv1,ha2⟩
   rcases hx with hx|hx
   ·rw[hx];exact⟨hd',y,hy,fin⟩
   ·rw[hx];exact⟨hd',y,hy,fin⟩
def zgP (A:Nat) (r:List Nat) (k:Nat):Option Nat:=match Nat.blt k 200 with|true=>some (Nat.add A k)|false=>nth r (Nat.sub k 200)
theorem zdX {A:Nat} {r:List Nat} {k:Nat} (h:k<200):zgP A r k=some (A+k):=by unfold zgP;rw[zdl h];rfl
theorem zeQ {A:Nat} {r:List Nat} {k:Nat} (h:¬k<200):zgP A r k=r[k-200]? :=by unfold zgP;rw[zph h];exact zbc _ _
theorem RS_L {A:Nat} {r:List Nat} {j:Nat} (h:j<200):RS (zgP A r) (fam 0 j):=by unfold RS;rw[zbk,ylX,zdX h];rfl
theorem RD_L {A:Nat} {r:List Nat} {j:Nat} (h:j<200):RD (zgP A r) (fam 0 j)=fam A j:=by unfold RD;rw[zbk,ylX,zdX h,zbk]
def zjo (A n n0:Nat) (r:List Nat) (k:Nat):Nat:=match Nat.blt k 200 with|true=>Nat.add A k|false=>rho r n0 n (Nat.sub k 200)
theorem zsF {A n n0 j:Nat} {r:List Nat} (h:j<200):zjo A n n0 r (fam 0 j)=fam A j:=by
 unfold zjo;rw[zbk,ylX,zdl h,zbk];rfl
def zwo (n0:Nat) (r:List Nat) (g1:Nat->Option AO) (rows2:List AO) (s:St):St:=
 match s with
 |⟨h,n⟩=>match h with
  | .f A B _ t=>⟨.f A B g1 (zsP r n0 n 0 rows2 (zb4 t r)),Nat.add n (Nat.sub 20 n0)⟩
  |h=>⟨h,n⟩
def okM (n0 A B n:Nat) (r:List Nat) (l1:Nat):Bool:=
 match zck [] r with
 |true=>match zsT A B r with
  |true=>match Nat.beq (Nat.sub B A) 200 with
   |true=>match Nat.ble B n with
    |true=>match Nat.ble r.length 20 with
     |true=>match Nat.ble n0 r.length with|true=>Nat.ble l1 20|false=>false
     |false=>false
    |false=>false
   |false=>false
  |false=>false
 |false=>false
theorem zw8 {n0 A B n:Nat} {r:List Nat} {l1:Nat} (h:okM n0 A B n r l1=true):zck [] r=true/\zsT A B r=true/\B-A=200/\B<=n/\r.length<=20/\n0<=r.length/\l1<=20:=by
 unfold okM at h;split at h
 ·rename_i h1;split at h
  ·rename_i h2;split at h
   ·rename_i h3;split at h
    ·rename_i h4;split at h
     ·rename_i h5;split at h
      ·rename_i h6;exact⟨h1,h2,yjX h3,ynX h4,ynX h5,ynX h6,ynX h⟩
      ·cases h
     ·cases h
    ·cases h
   ·cases h
  ·cases h
 ·cases h
theorem CallOk.liftK {P:Program} {n0 A B n:Nat} {f:FuncId} {args0 args:List AV} {g0 g1:Nat->Option AO} {t:T AO} {rows0 rows1:List AO} {v1:AV} (r:List Nat) (v2:AV) (rows2:List AO) (hc:HK P n0 f args0 g0 rows0 v1 g1 rows1) (hL:okM n0 A B n r rows1.length=true)
  (hc0:∀j o,g0 j=some o->zaZ o) (hc1:∀j o,g1 j=some o->zaZ o)
  (hrows:zcL (.f A B g0 t) [] (zgP A r) rows0 r) (hargs:zgy (RS (zgP A r)) args0/\Wvl (.f A B g0 t) [] (RD (zgP A r)) args0 args)
  (hv:Rn (zjo A n n0 r) v1 v2) (hlen:rows2.length=rows1.length) (hrows2:zkz (zjo A n n0 r) rows1 rows2):CallOk P f args ⟨.f A B g0 t,n⟩ v2 (zwo n0 r g1 rows2 ⟨.f A B g0 t,n⟩):=by
 obtain⟨hap,hout,hAB,hBn,hlr,hn0,hl1⟩:=zw8 hL;obtain⟨hinj,_⟩:=zcR hap;have hout:=zfW hout;obtain⟨hl,hget⟩:=zfd hrows
 have hren:Ren (T.f A B g0 t) [] (zgP A r) (zlu g0 rows0).h.get:=by
  refine⟨λk o1 hk=> ?_,λk k' o o' k0 hk hk' h1 h2=> ?_⟩
  ·rw[zg1] at hk;by_cases hr:k<200
   ·rw[ygX hr] at hk;refine⟨A+k,o1,zdX hr,?_,by simp,?_⟩
    ·rw[yAZ,ygX ⟨zo,zo⟩,yLX];exact hk
    ·have:=hc0 k o1 hk
     unfold WOG zaZ at*
     cases o1 with
     |row c e q=>exact⟨rfl,rfl, .same rfl this⟩
     |iter s p=>exact⟨rfl,rfl⟩
   ·rw[yfX hr] at hk;obtain⟨b0,o,h1,h2,h3⟩:=hget _ o1 hk;exact⟨b0,o,(zeQ hr).trans h1,h2,by simp,h3⟩
  ·by_cases hr:k<200
   ·rw[zdX hr] at h1;cases h1;by_cases hr':k'<200
    ·rw[zdX hr'] at h2
     have:A+k'=A+k:=by injection h2
     omega
    ·rw[zeQ hr'] at h2;exact absurd ⟨zo,zo⟩ (hout _ (yHX h2))
   ·rw[zeQ hr] at h1;by_cases hr':k'<200
    ·rw[zdX hr'] at h2;cases h2;exact absurd ⟨zo,zo⟩ (hout _ (yHX h1))
    ·rw[zeQ hr'] at h2;have:=hinj _ _ k0 h1 h2;omega
 refine CallOk.liftGen (z:=[]) (R:=zgP A r) (nA:=220) (n0:=200+n0) (zjo A n n0 r) (λB'=>200+(n0+(B'-n))) hc hren (λk hk=> ?_) hargs ?_ (λk hk=> ?_) hv (λK o hK=> ?_)
 ·rw[zeQ zo,yyX zo]
 ·show n<=n+(20-n0);omega
 ·by_cases hr:k<200
  ·refine .inr ⟨zo,?_⟩;rw[zdX hr];unfold zjo;rw[zdl hr];rfl
  ·have e:zjo A n n0 r k=rho r n0 n (k-200):=by unfold zjo;rw[zph hr];rfl
   rw[e];unfold rho
   cases hlt:Nat.blt (k-200) n0 with
   |true=>
    have hlt:=zby hlt;refine .inr ⟨zo,?_⟩;rw[zeQ hr,ysX zo];show some _=some (rn r (k-200));unfold rn;rw[zbc,ysX zo]
   |false=>
    have hge:n0<=k-200:=yNZ λh=>by rw[show Nat.blt (k-200) n0=true from ysY h] at hlt;cases hlt
    refine .inl ⟨?_,?_,?_⟩
    ·show n<=n+(k-200-n0);omega
    ·show n+(k-200-n0)<n+(20-n0);omega
    ·show 200+(n0+(n+(k-200-n0)-n))=k;omega
 ·have hK:(T.f A B g1 (zsP r n0 n 0 rows2 (zb4 t r))).get K=some o:=hK;rw[yAZ] at hK;split at hK
  ·rename_i hin;refine .inl ⟨K-A,o,?_,?_,?_⟩
   ·rw[zg1,ygX zo];exact hK
   ·have:=hc1 _ o hK;unfold RnO;unfold zaZ at this
    cases o with
    |row c e q=>exact⟨rfl,rfl, .inr ⟨rfl,this⟩⟩
    |iter s p=>exact⟨rfl,rfl⟩
   ·unfold zjo;rw[zdl zo]
    show K=A+(K-A)
    omega
  ·rename_i hnAB
   rcases zen hK with⟨j,h1,h2⟩|h1
   ·obtain⟨o1,h3,h4⟩:=zfM hrows2 h1;refine .inl ⟨200+j,o1,?_,h4,?_⟩
    ·rw[zg1,yfX zo,yLX];exact h3
    ·rw[h2,ylX];unfold zjo;rw[zph zo,show Nat.sub (200+j) 200=j from yLX _ _]
   ·obtain⟨h2,h3⟩:=zaG h1;refine .inr ⟨by rw[yAZ,yfX hnAB];exact h2,by simp,λk o0 h0 e=> ?_⟩;by_cases hr:k<200
    ·rw[zdX hr] at e
     have e:A+k=K:=by injection e
     exact hnAB ⟨zo,zo⟩
    ·rw[zeQ hr] at e;exact h3 (yHX e)
theorem KCall.liftK {P:Program} {n0 A B n:Nat} {f:FuncId} {args0 args:List AV} {g0 g1:Nat->Option AO} {t:T AO} {rows0 rows1:List AO} {v1:AV} {K:KC} (r:List Nat) (v2:AV) (rows2:List AO) (hc:HK P n0 f args0 g0 rows0 v1 g1 rows1) (hL:okM n0 A B n r rows1.length=true)
  (hc0:∀j o,g0 j=some o->zaZ o) (hc1:∀j o,g1 j=some o->zaZ o)
  (hrows:zcL (.f A B g0 t) [] (zgP A r) rows0 r) (hargs:zgy (RS (zgP A r)) args0/\Wvl (.f A B g0 t) [] (RD (zgP A r)) args0 args)
  (hv:Rn (zjo A n n0 r) v1 v2/\rows2.length=rows1.length/\zkz (zjo A n n0 r) rows1 rows2) (hk:(zwo n0 r g1 rows2 ⟨.f A B g0 t,n⟩).nfK λs=>K v2 s):KCall P f args ⟨.f A B g0 t,n⟩ K:=by
 have hle:n<=(zwo n0 r g1 rows2 ⟨.f A B g0 t,n⟩).n:=by show n<=n+(20-n0);omega
 exact⟨v2,_,CallOk.liftK r v2 rows2 hc hL hc0 hc1 hrows hargs hv.1 hv.2.1 hv.2.2,hle,yDY hk⟩
theorem DCall.liftK {P:Program} {n0 A B n:Nat} {f:FuncId} {args0 args:List AV} {g0 g1:Nat->Option AO} {t:T AO} {rows0 rows1:List AO} {v1:AV} {light:AV->Prop} {heavy:AV->St->Prop} (r:List Nat) (v2:AV) (rows2:List AO) (hc:HK P n0 f args0 g0 rows0 v1 g1 rows1) (hL:okM n0 A B n r rows1.length=true)
  (hc0:∀j o,g0 j=some o->zaZ o) (hc1:∀j o,g1 j=some o->zaZ o)
  (hrows:zcL (.f A B g0 t) [] (zgP A r) rows0 r) (hargs:zgy (RS (zgP A r)) args0/\Wvl (.f A B g0 t) [] (RD (zgP A r)) args0 args)
  (hv:Rn (zjo A n n0 r) v1 v2/\rows2.length=rows1.length/\zkz (zjo A n n0 r) rows1 rows2) (hk:(zwo n0 r g1 rows2 ⟨.f A B g0 t,n⟩).nfK λs=>heavy v2 s):DCall P f args light heavy ⟨.f A B g0 t,n⟩:=
 ⟨.inr ⟨v2,_,CallOk.liftK r v2 rows2 hc hL hc0 hc1 hrows hargs hv.1 hv.2.1 hv.2.2,yDY hk⟩⟩
theorem KCall.lK {P:Program} {n0 A B n:Nat} {f:FuncId} {args0 args:List AV} {g0 g1:Nat->Option AO} {t:T AO} {rows0 rows1:List AO} {v1:AV} {K:KC} (r:List Nat) (v2:AV) (rows2:List AO) (hc:HK P n0 f args0 g0 rows0 v1 g1 rows1) (hrows:zcL (.f A B g0 t) [] (zgP A r) rows0 r) (h3:zkz (zjo A n n0 r) rows1 rows2) (hk:(zwo n0 r g1 rows2 ⟨.f A B g0 t,n⟩).nfK λs=>K v2 s) (hargs:zgy (RS (zgP A r)) args0/\Wvl (.f A B g0 t) [] (RD (zgP A r)) args0 args:=by(repeat' first|exact zT|exact rfl|(intro _ _;exact rfl)|refine zA ?_ ?_)) (h1:Rn (zjo A n n0 r) v1 v2:=by(unfold Ex.Rn Ex.Rnl;trivial)) (h2:rows2.length=rows1.length:=by rfl) (hL:okM n0 A B n r rows1.length=true:=by rfl) (hc0:∀j o,g0 j=some o->zaZ o:=by exact yUZ _ _) (hc1:∀j o,g1 j=some o->zaZ o:=by exact yUZ _ _):KCall P f args ⟨.f A B g0 t,n⟩ K:=KCall.liftK r v2 rows2 hc hL hc0 hc1 hrows hargs ⟨h1,h2,h3⟩ hk
theorem DCall.lK {P:Program} {n0 A B n:Nat} {f:FuncId} {args0 args:List AV} {g0 g1:Nat->Option AO} {t:T AO} {rows0 rows1:List AO} {v1:AV} {light:AV->Prop} {heavy:AV->St->Prop} (r:List Nat) (v2:AV) (rows2:List AO) (hc:HK P n0 f args0 g0 rows0 v1 g1 rows1) (hrows:zcL (.f A B g0 t) [] (zgP A r) rows0 r) (h3:zkz (zjo A n n0 r) rows1 rows2) (hk:(zwo n0 r g1 rows2 ⟨.f A B g0 t,n⟩).nfK λs=>heavy v2 s) (hargs:zgy (RS (zgP A r)) args0/\Wvl (.f A B g0 t) [] (RD (zgP A r)) args0 args:=by(repeat' first|exact zT|exact rfl|(intro _ _;exact rfl)|refine zA ?_ ?_)) (h1:Rn (zjo A n n0 r) v1 v2:=by(unfold Ex.Rn Ex.Rnl;trivial)) (h2:rows2.length=rows1.length:=by rfl) (hL:okM n0 A B n r rows1.length=true:=by rfl) (hc0:∀j o,g0 j=some o->zaZ o:=by exact yUZ _ _) (hc1:∀j o,g1 j=some o->zaZ o:=by exact yUZ _ _):DCall P f args light heavy ⟨.f A B g0 t,n⟩:=DCall.liftK r v2 rows2 hc hL hc0 hc1 hrows hargs ⟨h1,h2,h3⟩ hk
theorem wK {n0 B:Nat} {t:Tm} {s:St} {g:Nat->Option AO} {th:T AO} (r z:List Nat) {sl:List (Nat×AV)} {n:Nat} {g1:Nat->Option AO} {rows:List AO} (hrows:zcL s.h z (zqm r) rows r)
  (hfam:∀j o1,g1 j=some o1->g j=some o1/\zaZ o1:=by exact(λj o1 h=>⟨h,yUZ _ _ j o1 h⟩)) (hsl:zhe s.h z (zqm r) t sl:=by(repeat' first|exact zT|exact rfl|(intro _ _;exact rfl)|refine zA ?_ ?_)) (hn:t.n=n:=by rfl) (hh:s.h= .f 0 B g th:=by rfl) (hB:Nat.beq B 200=true:=by rfl) (hg:okK n0 z r=true:=by rfl):Weak (Nat.add 200 n0) t s (zag sl n) (zlu g1 rows):=Weak.ofK r z hn hh hB hg hrows hfam hsl
def zx7 :AV->Bool
 | .ptr _ _=>true
 | .sl _ _ _ _=>true
 | .so _ _ _ _=>true
 |v=>plainA v
theorem zyH {m:Mp} {z':Nat->Nat->Option Value} {v:AV} {x:Value} (hc:zx7 v=true) (h:R1 m v x):R1 ⟨m.f,z'⟩ v x:=by
 cases v with
 |ptr b o=>exact h
 |sl b o n c=>exact h
 |so b o n c=>exact h
 |sc v=>exact h
 |any=>trivial
 |agg l=>exact zjx (v:= .agg l) hc h
 |tup l=>exact zjx (v:= .tup l) hc h
 |fn a b c=>cases hc
 |ifc a b=>cases hc
 |lst a b c=>cases hc
 |cp a b=>cases hc
def zfl (o:AO):Prop:=match o with| .row c _ _=>plainA.plainL c=true| .iter _ _=>True
theorem zqi {n j:Nat}:rho [] 0 n j=n+j:=by
 unfold rho
 cases h:Nat.blt j 0 with
 |true=>exact absurd (zby h) (ypX _)
 |false=>rfl
open Classical in
theorem CallOk.lendC {P:Program} {f:FuncId} {args args1:List AV} {s:St} {v1:AV} {rows1:List AO} (z:List Nat) (v2:AV) (hw:Wzl s.h z args1 args) (hc:HC P 0 f args1 [] v1 rows1) (hv1:zx7 v1=true) (hp:∀o∈rows1,zfl o) (hv:Rn (rho [] 0 s.n) v1 v2):CallOk P f args s v2 (zso s [] [] 0 rows1):=by
 intro m w args' hR hok hfr
 let m1:Mp:=⟨λ_=>none,zdL m s.h.get z w⟩
 have hemp:∀b,(zan []).h.get b=none:=λb=>by rw[zaL];rfl
 have hok1:Ok m1 (zan []).h.get w:=by
  refine⟨λb o hb=>(by rw[hemp] at hb;cases hb),λb b' o o' hb=>(by rw[hemp] at hb;cases hb),λk i v hv=>⟨?_,λb o hb=>(by rw[hemp] at hb;cases hb)⟩,hok.tbsub λb o hb=>(by rw[hemp] at hb;cases hb)⟩
  rcases zat hv with h1|⟨_,h6⟩
  ·exact(hok.fz k i v h1).1
  ·exact h6
 have hR1:Rl m1 args1 args':=Rzl.rl (m:=m1) (zee hok args1 hw hR);refine Calls.mono (hc m1 w args' hR1 hok1 (λb _=>rfl)) ?_;rintro e w' ⟨y,m',rfl,g,hy,ha⟩
 let own:Nat->Prop:=λk=>∃b o,b∈z/\s.h.get b=some o/\blk m b=some k
 have hfr:∀b,s.n<=b->b<s.n+(rows1.length-0)->m b=none:=hfr
 let m2:Mp:=⟨λB=>if s.n<=B/\B<s.n+(rows1.length-0) then m' (B-s.n) else m B,λk i=>if own k then m.z k i else m'.z k i⟩
 have hout:∀b x,m b=some x->m2 b=some x:=λb x hb=>by
  show(if s.n<=b/\b<s.n+(rows1.length-0) then _ else _)=_;split
  ·rename_i h;rw[hfr b h.1 h.2] at hb;cases hb
  ·exact hb
 have hnew:∀j,j<rows1.length->m2 (s.n+j)=m' j:=λj hj=>by
  show(if s.n<=s.n+j/\s.n+j<s.n+(rows1.length-0) then m' (s.n+j-s.n) else m (s.n+j))=_;rw[ygX ⟨zo,zo⟩,yLX]
 have hzle:Zle m.z m2.z:=λk i v hv=>by
  show(if own k then _ else _)=_;by_cases h:own k
  ·rw[ygX h];exact hv
  ·rw[yfX h];exact g.zle k i v (zaW k i v hv)
 have hle:m.le m2:=⟨hout,hzle⟩
 have hkeep:∀k,k<w.heap.size->w'.heap[k]? =w.heap[k]? :=λk hk=>g.fr.block k hk λb o hb=>by rw[hemp] at hb;cases hb
 have hrow:∀b o,(zso s [] [] 0 rows1).h.get b=some o->(∃j,rows1[j]? =some o/\b=s.n+j)∨s.h.get b=some o:=λb o hb=>by
  rcases zen hb with⟨j,h1,h2⟩|h1
  ·exact .inl ⟨j,h1,by rw[h2,zqi,ylX]⟩
  ·obtain⟨h2,_⟩:=zaG h1;obtain⟨h3,_⟩:=zaG h2;exact .inr h3
 have hlt:∀{j:Nat} {o:AO},rows1[j]? =some o->j<rows1.length:=λh=>(y7X.1 h).1
 have hget:∀{j:Nat} {o:AO},rows1[j]? =some o->(zan rows1).h.get j=some o:=λh=>by rw[zaL];exact h
 have hnblk:∀{j:Nat} {o:AO},rows1[j]? =some o->blk m2 (s.n+j)=blk m' j:=λh=>by unfold blk;rw[hnew _ (hlt h)]
 have hnk:∀{j:Nat} {o:AO},rows1[j]? =some o->∃k,blk m' j=some k/\w.heap.size<=k:=λh=>by
  rcases g.new _ _ (hget h) with⟨b0,o0,h0,_⟩|h1
  ·rw[hemp] at h0;cases h0
  ·exact h1
 have hoblk:∀{b:Nat} {o:AO},s.h.get b=some o->∃k,blk m b=some k/\blk m2 b=some k/\k<w.heap.size:=λhb=>by
  obtain⟨k,hk,hlt⟩:=y5X (hok.has _ _ hb);refine⟨k,hk,?_,hlt⟩;unfold blk at hk⊢
  cases hj:m _ with
  |none=>rw[hj] at hk;cases hk
  |some x=>rw[hj] at hk;rw[hout _ x hj];exact hk
 have hρ:∀b x,(⟨m'.f,λ_ _=>none⟩:Mp) b=some x->m2 (rho [] 0 s.n b)=some x:=λb x hb=>by
  have hb:m' b=some x:=hb
  have:b<rows1.length:=Nat.lt_of_not_le λh=>by rw[ha b h] at hb;cases hb
  rw[zqi,hnew b this];exact hb
 refine⟨y,m2,rfl,⟨ytZ _ _,λb hb=> ?_,⟨λb o hb=> ?_,λb b' o o' hb hb' hne=> ?_,λk i v hv=> ?_,hok.tbs (λk hk _=>hkeep k hk) λb o hb=> ?_⟩,⟨g.fr.os,g.fr.tape,g.fr.output,g.fr.size,λk hk _=>hkeep k hk⟩,λb o hb=> ?_,hzle,λk i v hv=> ?_⟩,zsi hρ (λ_ _ _ h=>(by cases h)) v1 hv (zyH hv1 hy)⟩
 ·show(if s.n<=b/\b<s.n+(rows1.length-0) then _ else _)=_;have hb:b<s.n∨s.n+(rows1.length-0)<=b:=hb;rw[yfX zo]
 ·rcases hrow b o hb with⟨j,h1,rfl⟩|h1
  ·have hR:=g.ok.has j o (hget h1);have hpo:=hp o (yHX h1)
   cases o with
   |row c e q=>
    obtain⟨k,o,cap,cur,fr,pre,vs,post,q1,q2,q3,q4,q5,q6,q7⟩:=hR;exact⟨k,o,cap,cur,fr,pre,vs,post,(hnew j (hlt h1)).trans q1,q2,q3,q4,q5,zgT hpo q6,q7⟩
   |iter s p=>
    obtain⟨k,q1,q2⟩:=hR;exact⟨k,(hnew j (hlt h1)).trans q1,q2⟩
  ·refine yMZ (hok.has b o h1) hle λk hk=> ?_;obtain⟨k',hk',hlt⟩:=y5X (hok.has b o h1);rw[hk] at hk';cases hk';exact hkeep k hlt
 ·rcases hrow b o hb with⟨j,h1,rfl⟩|h1
  ·rw[hnblk h1]
   rcases hrow b' o' hb' with⟨j',h1',rfl⟩|h1'
   ·rw[hnblk h1'];exact g.ok.apart j j' o o' (hget h1) (hget h1') λe=>hne (by rw[e])
   ·obtain⟨k,hk,hk2⟩:=hnk h1;obtain⟨k',_,hk',hk2'⟩:=hoblk h1';rw[hk,hk'];intro e;cases e;omega
  ·rcases hrow b' o' hb' with⟨j',h1',rfl⟩|h1'
   ·rw[hnblk h1'];obtain⟨k,hk,hk2⟩:=hnk h1';obtain⟨k',_,hk',hk2'⟩:=hoblk h1;rw[hk,hk'];intro e;cases e;omega
   ·obtain⟨k,hk,hk2,_⟩:=hoblk h1;obtain⟨k',hk',hk2',_⟩:=hoblk h1';rw[hk2,hk2',←hk,←hk'];exact hok.apart b b' o o' h1 h1' hne
 ·have hv:(if own k then m.z k i else m'.z k i)=some v:=hv;by_cases h:own k
  ·rw[ygX h] at hv;obtain⟨b,o,_,h2,h3⟩:=h;exact absurd h3 ((hok.fz k i v hv).2 b o h2)
  ·rw[yfX h] at hv;refine⟨(g.ok.fz k i v hv).1,λb o hb=> ?_⟩
   rcases hrow b o hb with⟨j,h1,rfl⟩|h1
   ·rw[hnblk h1];exact(g.ok.fz k i v hv).2 j o (hget h1)
   ·obtain⟨k',hk',hk2,hlt⟩:=hoblk h1;rw[hk2];intro e;cases e
    rcases g.znew k i v hv with h2|⟨b0,o0,h0,_⟩|h2
    ·rcases zat h2 with h3|⟨h3,_⟩
     ·exact(hok.fz k i v h3).2 b o h1 hk'
     ·exact h h3
    ·rw[hemp] at h0;cases h0
    ·omega
 ·rcases hrow b o hb with⟨j,h1,rfl⟩|h1
  ·obtain⟨k,hk,hk2⟩:=hnk h1;exact .inr ⟨k,by rw[hnblk h1,hk],hk2⟩
  ·obtain⟨k,hk,hk2,_⟩:=hoblk h1;exact .inl ⟨b,o,h1,by rw[hk,hk2]⟩
 ·rcases hrow b o hb with⟨j,h1,rfl⟩|h1
  ·obtain⟨k,hk,hk2⟩:=hnk h1;exact .inr ⟨k,by rw[hnblk h1,hk],hk2⟩
  ·obtain⟨k,hk,hk2,_⟩:=hoblk h1;exact .inl ⟨b,o,h1,by rw[hk,hk2]⟩
 ·have hv:(if own k then m.z k i else m'.z k i)=some v:=hv;by_cases h:own k
  ·rw[ygX h] at hv;exact .inl hv
  ·rw[yfX h] at hv
   rcases g.znew k i v hv with h1|⟨b0,o0,h0,_⟩|h1
   ·rcases zat h1 with h2|⟨h2,_⟩
    ·exact .inl h2
    ·exact absurd h2 h
   ·rw[hemp] at h0;cases h0
   ·exact .inr (.inr h1)
theorem KCall.lendC {P:Program} {f:FuncId} {args args1:List AV} {s:St} {K:KC} {v1:AV} {rows1:List AO} (z:List Nat) (v2:AV) (hc:HC P 0 f args1 [] v1 rows1) (hv1:zx7 v1=true) (hp:∀o∈rows1,zfl o) (hw:Wzl s.h z args1 args) (hv:Rn (rho [] 0 s.n) v1 v2) (hk:(zso s [] [] 0 rows1).nfK λs=>K v2 s):KCall P f args s K:=
 ⟨v2,_,CallOk.lendC z v2 hw hc hv1 hp hv,ytZ _ _,yDY hk⟩
theorem DCall.lendC {P:Program} {f:FuncId} {args args1:List AV} {light:AV->Prop} {heavy:AV->St->Prop} {s:St} {v1:AV} {rows1:List AO} (z:List Nat) (v2:AV) (hc:HC P 0 f args1 [] v1 rows1) (hv1:zx7 v1=true) (hp:∀o∈rows1,zfl o) (hw:Wzl s.h z args1 args) (hv:Rn (rho [] 0 s.n) v1 v2) (hk:(zso s [] [] 0 rows1).nfK λs=>heavy v2 s):DCall P f args light heavy s:=
 ⟨.inr ⟨v2,_,CallOk.lendC z v2 hw hc hv1 hp hv,yDY hk⟩⟩
end Go.Ex
abbrev yCX:=@Go.Ex.Weak.ofG
abbrev yoY:=@Go.Ex.KCall.ln
abbrev ypY:=@Go.Ex.KCall.lG
abbrev yRY:=@Go.Ex.DCall.ln
abbrev y7Y:=@Go.Ex.Weak.ofK
abbrev yBZ:=@Go.Ex.KCall.liftK
abbrev ySZ:=@Go.Ex.KCall.liftG
namespace Ck
open Go Go.Ex
def flatI {α:Type} (f:Nat->α->List AV):Nat->List α->List AV
 |_,[]=>[]
 |i,x::l=>f i x++flatI f (i+1) l
def zfS {α:Type} (f:Nat->α->List AV) (j:Nat) (c:List AV) (i:Nat) (x:α):List AV:=if i=j then c else f i x
section
variable {α : Type} {f : Nat -> α -> List AV} {sz : Nat}
theorem zbR (j:Nat) (c:List AV) (x:α):zfS f j c j x=c:=ygX rfl
theorem zg9 {j i:Nat} (h:i≠j) (c:List AV) (x:α):zfS f j c i x=f i x:=yfX h
theorem zsu (j:Nat) (c d:List AV):zfS (zfS f j c) j d=zfS f j d:=by
 funext i x
 unfold zfS;by_cases h:i=j
 ·rw[ygX h,ygX h]
 ·rw[yfX h,yfX h,yfX h]
theorem zcW (hf:∀i x,(f i x).length=sz) {j:Nat} {c:List AV} (hc:c.length=sz):∀i x,(zfS f j c i x).length=sz:=λi x=>by
 unfold zfS;split
 ·exact hc
 ·exact hf i x
theorem zbE (hf:∀i x,(f i x).length=sz):∀(l:List α) (i:Nat),(flatI f i l).length=l.length*sz
 |[],i=>by simp[flatI]
 |x::l,i=>by
  unfold flatI;rw[yvX,hf,zbE hf l (i+1),yGX,yZX,yuZ,yIZ]
theorem zci (hf:∀i x,(f i x).length=sz) (o:α):∀(l:List α) (i j k:Nat),j<l.length->k<sz->(flatI f i l)[j*sz+k]? =(f (i+j) (at_ o l j))[k]?
 |[],i,j,k,h,_=>by simp at h
 |x::l,i,0,k,_,hk=>by
  unfold flatI;rw[yHZ,ylX,yIX (by rw[hf];exact hk)];rfl
 |x::l,i,j+1,k,h,hk=>by
  unfold flatI
  rw[yuX (by rw[hf,yZX];omega),hf,show(j+1)*sz+k-sz=j*sz+k by rw[yZX];omega,zci hf o l (i+1) j k (by simpa using h) hk,
   show i+1+j=i+(j+1) by omega]
  rfl
theorem zf5 (hf:∀i x,(f i x).length=sz) (o:α) (l:List α) (j:Nat) (h:j<l.length):((flatI f 0 l).drop (j*sz)).take sz=f j (at_ o l j):=by
 apply ykZ;intro k;rw[yNX];split
 ·rename_i hk;rw[y8X,zci hf o l 0 j k h hk,ylX]
 ·rename_i hk;rw[yyX (by rw[hf];omega)]
theorem zeX {g:Nat->α->List AV} (o:α):∀(l:List α) (i:Nat),(∀j,j<l.length->f (i+j) (at_ o l j)=g (i+j) (at_ o l j))->flatI f i l=flatI g i l
 |[],i,_=>rfl
 |x::l,i,h=>by
  unfold flatI
  have h1:flatI f (i+1) l=flatI g (i+1) l:=zeX o l (i+1) (λj hj=>by
   have h2:=h (j+1) (by simpa using hj);have e:i+(j+1)=i+1+j:=zo;rw[e] at h2
   exact h2)
  have h0:f i x=g i x:=h 0 (by simp);rw[h0,h1]
theorem zlt (hf:∀i x,(f i x).length=sz) (o:α) {l:List α} {j k n:Nat} {cs c':List AV} (h:j<l.length) (hkn:k+n<=sz) (hn:cs.length=n) (hc:(f j (at_ o l j)).take k++(cs++(f j (at_ o l j)).drop (k+n))=c'):
  (flatI f 0 l).take (j*sz+k)++(cs++(flatI f 0 l).drop (j*sz+k+n))=flatI (zfS f j c') 0 l:=by
 have hlen:=zbE hf l 0
 have hc':c'.length=sz:=by rw[←hc];simp[hf];omega
 have hlt:j*sz+sz<=l.length*sz:=by rw[←ybZ];exact yEX _ h
 have key:∀j' k',j'<l.length->k'<sz->((flatI f 0 l).take (j*sz+k)++(cs++(flatI f 0 l).drop (j*sz+k+n)))[j'*sz+k']? =(zfS f j c' j' (at_ o l j'))[k']? :=by
  intro j' k' hj' hk'
  have hq:j'*sz+sz<=l.length*sz:=by rw[←ybZ];exact yEX _ hj'
  by_cases e:j'=j
  ·subst e;rw[zbR,←hc];by_cases h1:k'<k
   ·rw[yIX (by simp;omega),yNX,ygX zo,zci hf o l 0 j' k' hj' hk',ylX,yIX (by simp[hf];omega),yNX,ygX h1]
   ·by_cases h2:k'<k+n
    ·rw[yuX (by simp;omega),yIX (by simp;omega),yuX (by simp;omega),yIX (by simp[hf];omega)]
     congr 1
     simp[hf];omega
    ·rw[yuX (by simp;omega),yuX (by simp;omega),y8X,yuX (by simp;omega),yuX (by simp[hf];omega),y8X]
     have e1:j'*sz+k+n+(j'*sz+k'-((flatI f 0 l).take (j'*sz+k)).length-cs.length)=j'*sz+k':=by simp[hlen];omega
     rw[e1,zci hf o l 0 j' k' hj' hk',ylX]
     congr 1
     simp[hf];omega
  ·rw[zg9 e];by_cases h1:j'<j
   ·have:j'*sz+sz<=j*sz:=by rw[←ybZ];exact yEX _ h1
    rw[yIX (by simp;omega),yNX,ygX zo,zci hf o l 0 j' k' hj' hk',ylX]
   ·have:j*sz+sz<=j'*sz:=by rw[←ybZ];exact yEX _ zo
    rw[yuX (by simp;omega),yuX (by simp;omega),y8X]
    have e1:j*sz+k+n+(j'*sz+k'-((flatI f 0 l).take (j*sz+k)).length-cs.length)=j'*sz+k':=by simp[hlen];omega
    rw[e1,zci hf o l 0 j' k' hj' hk',ylX]
 apply ykZ;intro q;by_cases hs:sz=0
 ·subst hs;have e0:flatI (zfS f j c') 0 l=[]:=yeX (by rw[zbE (zcW hf hc') l 0];simp);have e2:flatI f 0 l=[]:=yeX (by rw[hlen];simp);have e3:cs=[]:=yeX zo;rw[e0,e2,e3];simp
 ·by_cases hq:q<l.length*sz
  ·have h1:q/sz<l.length:=(Nat.div_lt_iff_lt_mul zo).2 hq;have h2:q%sz<sz:=Nat.mod_lt _ zo
   have h3:q/sz*sz+q%sz=q:=by rw[Nat.mul_comm];exact Nat.div_add_mod q sz
   have:=key (q/sz) (q%sz) h1 h2;rw[h3] at this;have h4:=zci (f:=zfS f j c') (zcW hf hc') o l 0 (q/sz) (q%sz) h1 h2;rw[h3,ylX] at h4;rw[this,h4]
  ·rw[yyX,yyX]
   ·rw[zbE (zcW hf hc') l 0];omega
   ·simp[hlen,hn];omega
end
end Ck
namespace Ck
open Go Go.Ex
theorem zrN {α:Type} {enc:α->AV} (h:∀x,cont (enc x)=true):∀l:List α,cont.contL (l.map enc)=true
 |[]=>rfl
 |x::l=>by
  show(match cont (enc x) with|true=>cont.contL (l.map enc)|false=>false)=true;rw[h x];exact zrN h l
theorem zfR {h:T AO} {z r:List Nat} {c1 c:List AV} (h1:c1=c) (hc:cont.contL c1=true):WRow h z r c1 c:=Or.inr ⟨h1,h1▸hc⟩
theorem zmf {α:Type} (enc:α->AV) (pre Q:List α) (x:α):([]++(Q++[x])).map enc=((pre++Q).map enc).drop pre.length++[enc x]:=by simp
theorem zcE {x:AV} (n:Nat) (v:Value) (hv:v.cells.toList.map AV.sc=[x]):zc8 n v=List.replicate n x:=by
 unfold zc8;rw[hv]
 induction n with
 |zero=>rfl
 |succ n ih=>rw[yTY,yTY,yDZ,ih];rfl
section
variable {P : Program} {s : St} {K : KC}
theorem zyp {α:Type} (enc:α->AV) (o:α) {l:List α} {T:TypeId} {b j off:Nat} {e:TypeId} {q n:Nat} (hoff:off=j) (hT:tyS P T= .ok (false,n)) (hr:s.h.get b=some (.row (l.map enc) e q)) (hj:j<l.length):zcw P s T b off= .ok (enc (at_ o l j)):=by
 subst hoff;refine zlg hr hT ?_;rw[yuY,ysX hj];rw[zaS _ _ _ hj];rfl
theorem loadMx {α:Type} (enc:α->AV) (o x:α) {l:List α} {T:TypeId} {b j off:Nat} {e:TypeId} {q n:Nat} (hx:at_ o l j=x) (hoff:off=j) (hT:tyS P T= .ok (false,n)) (hr:s.h.get b=some (.row (l.map enc) e q)) (hj:j<l.length):zcw P s T b off= .ok (enc x):=by
 rw[←hx];exact zyp enc o hoff hT hr hj
theorem storeM {α:Type} (enc:α->AV) {x:AV} {l:List α} {T:TypeId} {b j off:Nat} (a:α) {e:TypeId} {q:Nat} (hv:x=enc a) (hoff:off=j) (hn:zeH (enc a)=true) {n:Bool} (hT:tyS P T= .ok (n,1)) (hl:(enc a).cells=[enc a]) (h1:zgW (enc a)=true) (hr:s.h.get b=some (.row (l.map enc) e q)) (hj:j<l.length)
  (hk:(s.set b (.row ((l.set j a).map enc) e q)).nfK λs=>K AV.undef s):zdQ (zcY P s T (.ptr b off) x) K:=by
 subst hv;exact zwE enc hoff hn hT hl h1 hr hj hk
theorem zhM {α:Type} {enc:α->AV} {l:List α} {b n:Nat} {e:TypeId} {q:Nat} (hr:s.h.get b=some (.row (l.map enc) e q)) (hn:n=l.length):zeF s b 0 n= .ok (l.map enc):=by
 subst hn;unfold zeF Ex.rowAt;rw[hr];show takeN (l.map enc) 0 l.length=_;unfold takeN;rw[y8Z,ze2 (by simp)];rw[yqY (by simp)]
end
def rx (v:Pt) (r:Ref):Rc:=if wi r.r 0 (v.rs.length-1) then Ck.rc v r.r else Rc.o
theorem zgZ {α:Type} (enc:α->AV) (o:α) (l:List α):l.map enc=(List.range l.length).flatMap λi=>[enc (at_ o l i)]:=by
 induction l with
 |nil=>rfl
 |cons a l ih=>
  rw[List.map_cons,yGX,List.range_succ_eq_map,y0X,List.flatMap_map,ih];rfl
end Ck
abbrev y4X:=@Ck.zrN
abbrev yjY:=@Ck.loadMx
abbrev ytY:=@Ck.storeM
abbrev yyY:=@Ck.zrN
