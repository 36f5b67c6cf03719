/- Own text, part Rprt 9: walks of the package acl and of its reference, and the plain laws that they lean on; no statement of the seat is here. -/
import Derived.Test.YtgcjejajljhnaaaGreatDoorRprt1
import Derived.Test.YtgcjejajljhnaaaGreatDoorRprt8
import Derived.Test.YtgcjejajljhnaaaGreatDoorRprt6
set_option linter.all false
namespace Ck
theorem zaU {e:Int} {l:List Int} (h:e≠0):first (e::l)=e:=yfX h
theorem zaM {l:List Int}:first (0::l)=first l:=rfl
theorem zcp {E:Nat->Int} {n:Nat} (h:∀k,k<n->E k=0):goE E n=0:=zfz E n h
theorem zco {E:Nat->Int} {n k:Nat} (h:∀j,j<k->E j=0) (hk:k<n) (he:E k≠0):goE E n=E k:=zj5 E (zfz E k h) he n hk
theorem zsH {r:Ref} (h:zaJ r≠0):zaJ r=2:=by
 unfold zaJ at h⊢;split
 ·rename_i c;rw[ygX c] at h;exact absurd rfl h
 ·rfl
theorem ziO (i:Int) (x:Rc):zd4 i x=if(!(wi x.q 1 65535)||(!(wi x.k 0 3)||(!(num x.ln)|| !(num x.ds))))=true then 2 else if(!x.u&&(!decide (x.b=Ref.o)||decide (0<x.ln+x.ds+x.parts+x.k)))=true then 3 else if(if x.k=3 then zaJ x.b else if x.b=Ref.o then 0 else 2)≠0 then 2 else if 8<x.ns.length∨8<x.ss.length∨zdI i<x.es.length then 8 else if(0<x.es.length/\x.k≠0)∨(0<x.ns.length/\(x.k=3∨i<16)) then 3 else 0:=by
 unfold zd4;simp only[Bool.or_assoc]
 have:(x.b !=Ref.o)= !decide (x.b=Ref.o):=by
  by_cases h:x.b=Ref.o
  ·simp[h]
  ·simp[h]
 rw[this]
end Ck
namespace Go.Proofs.YtgcjejajljhnaaaGreatDoor
open Go.Ex Ck
set_option maxRecDepth 100000
set_option maxHeartbeats 8000000
theorem zmm (i:Int) (x:Rc) (h1:x.ns.length<=100000) (h2:x.ss.length<=100000) (h3:x.es.length<=100000) (h4:∀y∈x.ss,y.r.length<=100000) (h5:∀y∈x.ns,y.n.length<=100000) (h6:∀y∈x.es,y.n.length<=100000):PureC Tryz.prog 47 [ib i,zpy x] (ib (zbx i x)):=by
 have hA:=za6 x.q 1 65535;have hB:=za6 x.k 0 3;have hC:=zet x.ln;have hD:=zet x.ds
 have hk:wi x.k 0 3=true->0<=x.k/\x.k<=3:=λe=>by unfold wi at e;simpa using e
 have hln:num x.ln=true->0<=x.ln/\x.ln<=2147483647:=λe=>by unfold num wi at e;simpa using e
 have hds:num x.ds=true->0<=x.ds/\x.ds<=2147483647:=λe=>by unfold num wi at e;simpa using e
 unfold zbx;rw[ziO];unfold Rc.parts
 generalize wi x.q 1 65535=a at*
 generalize wi x.k 0 3=b at*
 generalize num x.ln=c at*
 generalize num x.ds=d at*
 refine ytX zal rfl ?_;cases a
 ·(conv=>whnf);repeat(first|refine Ex.g ?_|refine yaX (hA) ?_);conv=>whnf
  refine .z [] ?_;exact ydX rfl
 cases b
 ·(conv=>whnf);repeat(first|refine Ex.g ?_|refine yaX (hA) ?_|refine yaX (hB) ?_);conv=>whnf
  refine .z [] ?_;exact ydX rfl
 cases c
 ·(conv=>whnf);repeat(first|refine Ex.g ?_|refine yaX (hA) ?_|refine yaX (hB) ?_|refine yaX (hC) ?_);conv=>whnf
  refine .z [] ?_;exact ydX rfl
 cases d
 ·(conv=>whnf);repeat(first|refine Ex.g ?_|refine yaX (hA) ?_|refine yaX (hB) ?_|refine yaX (hC) ?_|refine yaX (hD) ?_);conv=>whnf
  refine .z [] ?_;exact ydX rfl
 have hk:=hk rfl;have hln:=hln rfl;have hds:=hds rfl;have e0:(!true||(!true||(!true|| !true)))=false:=rfl;rw[yfX (by rw[e0];decide)];have hS:((x.ns.length+x.ss.length+x.es.length:Nat):Int)=(x.ns.length:Int)+(x.ss.length:Int)+(x.es.length:Int):=zo
 have hcase:(x.u=false/\¬x.b=Ref.o)∨(x.u=false/\x.b=Ref.o/\0<x.ln+x.ds+((x.ns.length+x.ss.length+x.es.length:Nat):Int)+x.k)∨(x.u=true/\x.k=3/\¬zaJ x.b=0)∨(x.u=true/\¬x.k=3/\¬x.b=Ref.o)∨(x.u=false/\x.b=Ref.o/\¬0<x.ln+x.ds+((x.ns.length+x.ss.length+x.es.length:Nat):Int)+x.k/\¬x.k=3)∨(x.u=true/\x.k=3/\zaJ x.b=0)∨(x.u=true/\¬x.k=3/\x.b=Ref.o):=by
  cases hu:x.u
  ·by_cases hb:x.b=Ref.o
   ·by_cases hs:0<x.ln+x.ds+((x.ns.length+x.ss.length+x.es.length:Nat):Int)+x.k
    ·exact .inr (.inl ⟨rfl,hb,hs⟩)
    ·exact .inr (.inr (.inr (.inr (.inl ⟨rfl,hb,hs,zo⟩))))
   ·exact .inl ⟨rfl,hb⟩
  ·by_cases h3:x.k=3
   ·by_cases hr:zaJ x.b=0
    ·exact .inr (.inr (.inr (.inr (.inr (.inl ⟨rfl,h3,hr⟩)))))
    ·exact .inr (.inr (.inl ⟨rfl,h3,hr⟩))
   ·by_cases hb:x.b=Ref.o
    ·exact .inr (.inr (.inr (.inr (.inr (.inr ⟨rfl,h3,hb⟩)))))
    ·exact .inr (.inr (.inr (.inl ⟨rfl,h3,hb⟩)))
 have hgood:x.u=true->¬(!x.u&&(!decide (x.b=Ref.o)||decide (0<x.ln+x.ds+((x.ns.length+x.ss.length+x.es.length:Nat):Int)+x.k)))=true:=λhu=>by rw[hu];simp
 have hbo:x.b=Ref.o->(if decide (x.b=Ref.o)=true then(0:Int) else 2)=0:=λhb=>by rw[ybX hb];rfl
 have hbn:¬x.b=Ref.o->(if decide (x.b=Ref.o)=true then(0:Int) else 2)=2:=λhb=>by rw[ycX hb];rfl
 rcases hcase with⟨hu,hb⟩|⟨hu,hb,hs⟩|⟨hu,h3,hr⟩|⟨hu,h3,hb⟩|⟨hu,hb,hs,h3⟩|⟨hu,h3,hr⟩|⟨hu,h3,hb⟩
 ·rw[ygX (by rw[hu,ycX hb];rfl)]
  (conv=>whnf);repeat(first|refine Ex.g ?_|refine yaX (hA) ?_|refine yaX (hB) ?_|refine yaX (hC) ?_|refine yaX (hD) ?_|refine yKY (zaH x.b Ref.o) ?_|refine KIf.t (yqX Bool.not (ycX hb)) ?_);conv=>whnf
  refine .z [] ?_;exact ydX rfl
 ·rw[ygX (by rw[hu,ybX hb,ybX hs];rfl)]
  (conv=>whnf);repeat(first|refine Ex.g ?_|refine yaX (hA) ?_|refine yaX (hB) ?_|refine yaX (hC) ?_|refine yaX (hD) ?_|refine yKY (zaH x.b Ref.o) ?_|refine KIf.f (yqX Bool.not (ybX hb)) ?_);conv=>whnf
  refine .z [] ?_;exact ydX rfl
 ·rw[yfX (hgood hu),ygX h3,ygX hr];have hr2:=zsH hr
  (conv=>whnf);repeat(first|refine Ex.g ?_|refine yaX (hA) ?_|refine yaX (hB) ?_|refine yaX (hC) ?_|refine yaX (hD) ?_|refine yKY (zaH x.b Ref.o) ?_|refine Ex.om ?_|refine yaX (zbi (decide (x.b=Ref.o)) 2) ?_|refine yaX (zgQ x.b) ?_);conv=>whnf
  refine .z [] ?_;rw[hr2];exact ydX rfl
 ·have hq:¬(if decide (x.b=Ref.o)=true then(0:Int) else 2)=0:=by rw[hbn hb];decide
  rw[yfX (hgood hu),yfX h3,yfX hb,ygX (by decide)]
  (conv=>whnf);repeat(first|refine Ex.g ?_|refine yaX (hA) ?_|refine yaX (hB) ?_|refine yaX (hC) ?_|refine yaX (hD) ?_|refine yKY (zaH x.b Ref.o) ?_|refine Ex.om ?_|refine yaX (zbi (decide (x.b=Ref.o)) 2) ?_);conv=>whnf
  refine .z [] ?_;rw[hbn hb];exact ydX rfl
 all_goals
  first|rw[yfX (hgood hu),ygX h3,yfX (λc=>c hr)]|rw[yfX (hgood hu),yfX h3,ygX hb,yfX (λc=>c rfl)]|rw[yfX (by rw[hu,ybX hb,ycX hs];decide),yfX h3,ygX hb,yfX (λc=>c rfl)]
  try have hq:=hbo hb
  (conv=>whnf);repeat(first|refine Ex.g ?_|refine yaX (hA) ?_|refine yaX (hB) ?_|refine yaX (hC) ?_|refine yaX (hD) ?_|refine yKY (zaH x.b Ref.o) ?_|refine KIf.f (yqX Bool.not (ybX hb)) ?_|refine Ex.om ?_|refine yaX (zbi (decide (x.b=Ref.o)) 2) ?_|refine yaX (zgQ x.b) ?_);conv=>whnf
  by_cases h8:8<x.ns.length∨8<x.ss.length∨zdI i<x.es.length
  ·rw[ygX h8];by_cases n8:8<x.ns.length
   ·try(exfalso;omega;done)
    all_goals
     (conv=>whnf);repeat(first|refine Ex.g ?_|refine Ex.om ?_);conv=>whnf
     refine .z [] ?_;exact ydX rfl
   by_cases s8:8<x.ss.length
   ·try(exfalso;omega;done)
    all_goals
     (conv=>whnf);repeat(first|refine Ex.g ?_|refine Ex.om ?_);conv=>whnf
     refine .z [] ?_;exact ydX rfl
   try(exfalso;omega;done)
   all_goals
    (conv=>whnf);repeat(first|refine yxX (zmB i) ?_|refine Ex.om ?_);conv=>whnf
    refine .z [] ?_;exact ydX rfl
  rw[yfX h8];by_cases h9:(0<x.es.length/\x.k≠0)∨(0<x.ns.length/\(x.k=3∨i<16))
  ·rw[ygX h9];by_cases p1:0<x.es.length
   all_goals by_cases p2:x.k=0
   all_goals by_cases p3:0<x.ns.length
   all_goals by_cases p4:i<16
   all_goals first|(exfalso;omega)|skip
   all_goals
    (conv=>whnf);repeat(first|refine Ex.g ?_|refine yxX (zmB i) ?_|refine Ex.om ?_);conv=>whnf
    refine .z [] ?_;exact ydX rfl
  ·rw[yfX h9];by_cases p1:0<x.es.length
   all_goals by_cases p3:0<x.ns.length
   all_goals first|(exfalso;omega)|skip
   all_goals
    (conv=>whnf);repeat(first|refine Ex.g ?_|refine yxX (zmB i) ?_|refine Ex.om ?_);conv=>whnf
    refine yFX zal (D:=Nat) (λd=>x.ns.length-d) (λd=>d<=x.ns.length/\∀j,j<d->zdc (at_ Nm.o x.ns j)=0) (λd=>zag [(3, .ptr 0 0),(4,ib 0),(128,LS 3 aNm Nm.o x.ns),(129,ib x.ns.length),(130,ib d)] 166) (λd=>zan [.row (aRc x) 66 0]) 0 ⟨ymX _,λj hj=>absurd hj (ypX _)⟩ ?_ ?_
    ·exact Ex.wO [0] []
    rintro d ⟨hd,hI⟩;by_cases hlt:d<x.ns.length
    ·have hm:=at_mem Nm.o x.ns d hlt;have hE:=zqL (at_ Nm.o x.ns d) (h5 _ hm);by_cases he:zdc (at_ Nm.o x.ns d)=0
     ·(conv=>whnf);repeat(first|refine Ex.g ?_|refine yaX (hE) ?_|refine KIf.f (yqX Bool.not (ybX he)) ?_|refine Ex.om ?_);conv=>whnf
      refine⟨d+1,⟨hlt,λj hj=> ?_⟩,by dsimp only;omega,?_⟩
      ·by_cases e:j=d
       ·rw[e];exact he
       ·exact hI j zo
      ·exact Ex.wO [0] []
     ·have hz:Ck.first [0,zdH x,zcZ x,zdg x]=zdc (at_ Nm.o x.ns d):=by
       unfold zdH;rw[zaM,zco hI hlt he,zaU he]
      rw[hz]
      (conv=>whnf);repeat(first|refine Ex.g ?_|refine yaX (hE) ?_|refine KIf.t (yqX Bool.not (ycX he)) ?_|refine Ex.om ?_);conv=>whnf
      refine .z [] ?_;exact ydX rfl
    have hn0:zdH x=0:=zcp λk hk=>hI k zo
    (conv=>whnf);repeat((refine Ex.om ?_;conv=>whnf))
    refine yFX zal (D:=Nat) (λd=>x.ss.length-d) (λd=>d<=x.ss.length/\∀j,j<d->zcd (at_ Sm.o x.ss j)=0) (λd=>zag [(3, .ptr 0 0),(4,ib 0),(141,LS 2 aSm Sm.o x.ss),(142,ib x.ss.length),(143,ib d)] 166) (λd=>zan [.row (aRc x) 66 0]) 0 ⟨ymX _,λj hj=>absurd hj (ypX _)⟩ ?_ ?_
    ·exact Ex.wO [0] []
    rintro d ⟨hd,hI⟩;by_cases hlt:d<x.ss.length
    ·have hm:=at_mem Sm.o x.ss d hlt;have hE:=zl6 (at_ Sm.o x.ss d) (h4 _ hm);by_cases he:zcd (at_ Sm.o x.ss d)=0
     ·(conv=>whnf);repeat(first|refine Ex.g ?_|refine yaX (hE) ?_|refine KIf.f (yqX Bool.not (ybX he)) ?_|refine Ex.om ?_);conv=>whnf
      refine⟨d+1,⟨hlt,λj hj=> ?_⟩,by dsimp only;omega,?_⟩
      ·by_cases e:j=d
       ·rw[e];exact he
       ·exact hI j zo
      ·exact Ex.wO [0] []
     ·have hz:Ck.first [0,zdH x,zcZ x,zdg x]=zcd (at_ Sm.o x.ss d):=by
       rw[hn0];unfold zcZ;rw[zaM,zaM,zco hI hlt he,zaU he]
      rw[hz]
      (conv=>whnf);repeat(first|refine Ex.g ?_|refine yaX (hE) ?_|refine KIf.t (yqX Bool.not (ycX he)) ?_|refine Ex.om ?_);conv=>whnf
      refine .z [] ?_;exact ydX rfl
    have hs0:zcZ x=0:=zcp λk hk=>hI k zo
    (conv=>whnf);repeat((refine Ex.om ?_;conv=>whnf))
    refine yFX zal (D:=Nat) (λd=>x.es.length-d) (λd=>d<=x.es.length/\∀j,j<d->zc5 (at_ En.o x.es j)=0) (λd=>zag [(3, .ptr 0 0),(4,ib 0),(154,LS 4 aEn En.o x.es),(155,ib x.es.length),(156,ib d)] 166) (λd=>zan [.row (aRc x) 66 0]) 0 ⟨ymX _,λj hj=>absurd hj (ypX _)⟩ ?_ ?_
    ·exact Ex.wO [0] []
    rintro d ⟨hd,hI⟩;by_cases hlt:d<x.es.length
    ·have hm:=at_mem En.o x.es d hlt;have hE:=zo6 (at_ En.o x.es d) (h6 _ hm);by_cases he:zc5 (at_ En.o x.es d)=0
     ·(conv=>whnf);repeat(first|refine Ex.g ?_|refine yaX (hE) ?_|refine KIf.f (yqX Bool.not (ybX he)) ?_|refine Ex.om ?_);conv=>whnf
      refine⟨d+1,⟨hlt,λj hj=> ?_⟩,by dsimp only;omega,?_⟩
      ·by_cases e:j=d
       ·rw[e];exact he
       ·exact hI j zo
      ·exact Ex.wO [0] []
     ·have hz:Ck.first [0,zdH x,zcZ x,zdg x]=zc5 (at_ En.o x.es d):=by
       rw[hn0,hs0];unfold zdg;rw[zaM,zaM,zaM,zco hI hlt he,zaU he]
      rw[hz]
      (conv=>whnf);repeat(first|refine Ex.g ?_|refine yaX (hE) ?_|refine KIf.t (yqX Bool.not (ycX he)) ?_|refine Ex.om ?_);conv=>whnf
      refine .z [] ?_;exact ydX rfl
    have hens:zdg x=0:=zcp λk hk=>hI k zo;rw[hn0,hs0,hens]
    (conv=>whnf);repeat((refine Ex.om ?_;conv=>whnf))
    refine .z [] ?_;exact ydX rfl
end Go.Proofs.YtgcjejajljhnaaaGreatDoor
namespace Ck
open Go Go.Ex Go.Proofs.YtgcjejajljhnaaaGreatDoor
theorem zq5 {β:Type} (o:β) {l L:List β} (hl:L.length=l.length) (h:∀i,i<l.length->at_ o l i=at_ o L i):L=l:=by
 apply yMY hl;intro i h1 h2;have:=h i h2;rw[zaS _ _ _ h2,zaS _ _ _ h1] at this;exact this.symm
def zfr (x:Nm):Bool:=decide (x.n.length<=40)
def zfB (x:En):Bool:=decide (x.n.length<=40)
def ze6 (x:Sm):Bool:=decide (x.r.length<=30)
def zfh (x:Rc):Bool:=(decide (x.ns.length<=10)&&(decide (x.ss.length<=10)&&decide (x.es.length<=60)))&&(x.ns.all zfr&&(x.es.all zfB&&x.ss.all ze6))
def zii (v:Pt):Bool:=(decide (v.al.length<=30)&&(decide (v.rs.length<=99)&&(decide (v.ds.length<=70)&&decide (v.mp.length<=600))))&&v.rs.all zfh
structure FitP (v:Pt):Prop where
 f:Fit' v
 nl:∀x∈v.rs,∀n∈x.ns,n.n.length<=100000
 el:∀x∈v.rs,∀n∈x.es,n.n.length<=100000
 mp:v.mp.length<=100000
theorem zn5 {v:Pt} (h:zii v=true):FitP v:=by
 unfold zii at h;simp only[ykX,yDX] at h
 have hr:∀x∈v.rs,(x.ns.length<=10/\x.ss.length<=10/\x.es.length<=60)/\(∀n∈x.ns,n.n.length<=40)/\(∀n∈x.es,n.n.length<=40)/\∀s∈x.ss,s.r.length<=30:=λx hx=>by
  have:=yNY.1 h.2 x hx;unfold zfh at this;simp only[ykX,yDX,yNY,zfr,zfB,ze6] at this;exact this
 refine⟨⟨zo,zo,zo,λx hx=> ?_,λx hx=> ?_,λx hx=> ?_,λx hx y hy=> ?_⟩,λx hx n hn=> ?_,λx hx n hn=> ?_,zo⟩
 ·have:=(hr x hx).1;omega
 ·have:=(hr x hx).1;omega
 ·have:=(hr x hx).1;omega
 ·have:=(hr x hx).2.2.2 y hy;omega
 ·have:=(hr x hx).2.1 n hn;omega
 ·have:=(hr x hx).2.2.1 n hn;omega
end Ck
namespace Ck
open Go Go.Ex
theorem zyf (a:UInt8) (k:Nat) (hk:k<8):zoy .u8 (a.toNat:Int) (k:Int)=0↔a.toNat/2^k=0:=by
 have key:∀k:Fin 8,∀a:Fin 256,(zoy .u8 ((a:Nat):Int) ((k:Nat):Int)=0↔a.1/2^k.1=0):=by decide+kernel
 exact key ⟨k,hk⟩ ⟨a.toNat,a.toNat_lt⟩
theorem zq2 (l:List UInt8):l.getLast?.getD 0=gd 0 l (l.length-1):=by
 unfold gd;rw[List.getLast?_eq_getElem?]
end Ck
namespace Go.Proofs.YtgcjejajljhnaaaGreatDoor
open Go.Ex Ck
set_option maxRecDepth 100000
set_option maxHeartbeats 8000000
theorem zqP (n lo hi:Int):PureC Tryz.prog 131 [ib n,ib lo,ib hi] (bb (Ck.wi n lo hi)):=by
 refine ytX zal rfl ?_
 conv=>whnf
 refine yPX (λh=> ?_) (λh=> ?_)
 all_goals
  refine Ex.go ?_;refine .z [] ?_;(conv=>whnf);simp[Ck.wi,h]
theorem zhH (b:Bool) (e:Int):PureC Tryz.prog 133 [bb b,ib e] (ib (if b then 0 else e)):=by
 refine ytX zal rfl ?_
 conv=>whnf
 cases b
 all_goals
  refine Ex.go ?_;refine .z [] ?_;(conv=>whnf);exact⟨rfl,rfl⟩
theorem zjI (c:Int) (h:64<=c/\c<=512):PureC Tryz.prog 132 [ib c] (ib ((c+7)/8)):=by
 have e1:(c+8-1).tdiv 8=(c+7)/8:=by rw[yGY zo];omega
 have h1:(8:Int)≠0/\Small ((c+8-1).tdiv 8):=⟨zo,by unfold Small;rw[e1];omega⟩
 refine ytX zal rfl ?_
 (conv=>whnf);repeat((refine Ex.g ?_;conv=>whnf))
 refine .z [] ?_;rw[←e1];exact ydX rfl
theorem zkI (s:List UInt8) (c:Int) (hs:s.length<=100000) (h:64<=c/\c<=512):PureC Tryz.prog 88 [tb s,ib c] (ib (zbs s c)):=by
 have hw:=zqP c 0 4096
 have hwi:wi c 0 4096=true:=by unfold wi;simp only[ykX,yDX];omega
 rw[hwi] at hw;have e2:c.tmod 8=c%8:=ymY zo;have h8:(8:Int)≠0:=zo;unfold zbs;rw[ygX hwi];refine ytX zal rfl ?_;by_cases hl:s.length=((c+7)/8).toNat
 ·rw[ygX hl];by_cases hr:c%8=0
  ·have hr':c.tmod 8=0:=by rw[e2];exact hr
   rw[ygX (.inl hr)]
   (conv=>whnf);repeat(first|refine Ex.g ?_|refine yaX (hw) ?_|refine yaX (zjI c h) ?_|refine yaX (zhH true 3) ?_|refine Ex.om ?_);conv=>whnf
   refine .z [] ?_;exact ydX rfl
  ·have hr':¬c.tmod 8=0:=by rw[e2];exact hr
   have hix:0<=(s.length:Int)-1/\(s.length:Int)-1<s.length:=zo
   have hsh:0<=c.tmod 8:=by rw[e2];omega
   have hz:zoy .u8 ((gd 0 s ((s.length:Int)-1).toNat).toNat:Int) (c.tmod 8)=0↔(s.getLast?.getD 0).toNat/2^(c%8).toNat=0:=by
    obtain⟨k,hk⟩:∃k:Nat,c%8=k:=⟨(c%8).toNat,zo⟩
    rw[e2,hk,zq2,show((s.length:Int)-1).toNat=s.length-1 by omega,yrX];exact zyf _ k zo
   by_cases hy:(s.getLast?.getD 0).toNat/2^(c%8).toNat=0
   ·have hd:decide (zoy .u8 ((gd 0 s ((s.length:Int)-1).toNat).toNat:Int) (c.tmod 8)=0)=true:=ybX (hz.2 hy);have hU:=zhH (decide (zoy .u8 ((gd 0 s ((s.length:Int)-1).toNat).toNat:Int) (c.tmod 8)=0)) 3;rw[ygX hd] at hU;rw[ygX (.inr hy)]
    (conv=>whnf);repeat(first|refine Ex.g ?_|refine yaX (hw) ?_|refine yaX (zjI c h) ?_|refine yaX (hU) ?_|refine Ex.om ?_);conv=>whnf
    refine .z [] ?_;exact ydX rfl
   ·have hd:¬decide (zoy .u8 ((gd 0 s ((s.length:Int)-1).toNat).toNat:Int) (c.tmod 8)=0)=true:=λe=>hy (hz.1 (yiZ e));have hU:=zhH (decide (zoy .u8 ((gd 0 s ((s.length:Int)-1).toNat).toNat:Int) (c.tmod 8)=0)) 3;rw[yfX hd] at hU;rw[yfX (λe=>e.elim hr hy)]
    (conv=>whnf);repeat(first|refine Ex.g ?_|refine yaX (hw) ?_|refine yaX (zjI c h) ?_|refine yaX (hU) ?_|refine Ex.om ?_);conv=>whnf
    refine .z [] ?_;exact ydX rfl
 ·rw[yfX hl]
  (conv=>whnf);repeat(first|refine Ex.g ?_|refine yaX (hw) ?_|refine yaX (zjI c h) ?_|refine Ex.om ?_);conv=>whnf
  refine .z [] ?_;exact ydX rfl
theorem zou (v:Pt) (h1:v.al.length<=100000) (h3:v.ds.length<=100000) (h4:v.mp.length<=100000):PureC Tryz.prog 46 [zbF v] (ib (zbG v)):=by
 have hA:=za6 v.c 64 512
 have hAw:wi v.c 64 512=true->64<=v.c/\v.c<=512:=λe=>by unfold wi at e;simpa using e
 unfold zbG
 generalize wi v.c 64 512=a at*
 refine ytX zal rfl ?_;cases a
 ·(conv=>whnf);repeat(first|refine Ex.g ?_|refine yaX (hA) ?_|refine yaX (zbi false 2) ?_);conv=>whnf
  refine .z [] ?_;exact ydX rfl
 have hc:=hAw rfl;have hM:=zkI v.mp v.c h4 hc;by_cases h8:24<v.al.length∨96<v.rs.length∨64<v.ds.length
 ·rw[ygX h8];by_cases n8:24<v.al.length
  ·(conv=>whnf);repeat(first|refine Ex.g ?_|refine yaX (hA) ?_|refine yaX (zbi true 2) ?_|refine Ex.om ?_);conv=>whnf
   refine .z [] ?_;exact ydX rfl
  by_cases s8:96<v.rs.length
  ·(conv=>whnf);repeat(first|refine Ex.g ?_|refine yaX (hA) ?_|refine yaX (zbi true 2) ?_|refine Ex.om ?_);conv=>whnf
   refine .z [] ?_;exact ydX rfl
  (conv=>whnf);repeat(first|refine Ex.g ?_|refine yaX (hA) ?_|refine yaX (zbi true 2) ?_|refine Ex.om ?_);conv=>whnf
  refine .z [] ?_;exact ydX rfl
 rw[yfX h8]
 (conv=>whnf);repeat(first|refine Ex.g ?_|refine yaX (hA) ?_|refine yaX (zbi true 2) ?_|refine Ex.om ?_);conv=>whnf
 refine yFX zal (D:=Nat) (λd=>v.al.length-d) (λd=>d<=v.al.length/\∀j,j<d->zb1 v.c (at_ Run.o v.al j)=0) (λd=>zag [(1, .ptr 0 0),(2,ib 0),(32,LS 2 zaP Run.o v.al),(33,ib v.al.length),(34,ib d)] 93) (λd=>zan [.row (aPt v) 26 0]) 0 ⟨ymX _,λj hj=>absurd hj (ypX _)⟩ ?_ ?_
 ·exact Ex.wO [0] []
 rintro d ⟨hd,hI⟩;by_cases hlt:d<v.al.length
 ·have hW1:=za6 (at_ Run.o v.al d).s 0 (v.c-1);have hW2:=za6 (at_ Run.o v.al d).l 1 (v.c-(at_ Run.o v.al d).s)
  have hbad:zb1 v.c (at_ Run.o v.al d)≠0->Ck.first [0,0,goE (λi=>zb1 v.c (at_ Run.o v.al i)) v.al.length,goE (zbq v.ds) v.ds.length,if v.ds.length=0 then 17 else 0,zbs v.mp v.c]=zb1 v.c (at_ Run.o v.al d):=λhe=>by
   rw[zaM,zaM,zco (E:=λi=>zb1 v.c (at_ Run.o v.al i)) hI hlt he,zaU he]
  obtain⟨p,hp⟩:∃p,wi (at_ Run.o v.al d).s 0 (v.c-1)=p:=⟨_,rfl⟩
  rw[hp] at hW1;cases p
  ·have he:zb1 v.c (at_ Run.o v.al d)=2:=by unfold zb1;rw[hp];rfl
   rw[show Ck.first [if true=true then 0 else 2,0,goE (λi=>zb1 v.c (at_ Run.o v.al i)) v.al.length,goE (zbq v.ds) v.ds.length,if v.ds.length=0 then 17 else 0,zbs v.mp v.c]=2 from(hbad (by rw[he];decide)).trans he]
   (conv=>whnf);repeat(first|refine Ex.g ?_|refine yaX (hW1) ?_|refine Ex.om ?_);conv=>whnf
   refine .z [] ?_;exact ydX rfl
  ·have hs:0<=(at_ Run.o v.al d).s/\(at_ Run.o v.al d).s<=v.c-1:=by unfold wi at hp;simpa using hp
   obtain⟨q,hq⟩:∃q,wi (at_ Run.o v.al d).l 1 (v.c-(at_ Run.o v.al d).s)=q:=⟨_,rfl⟩
   rw[hq] at hW2;cases q
   ·have he:zb1 v.c (at_ Run.o v.al d)=2:=by unfold zb1;rw[hp,hq];rfl
    rw[show Ck.first [if true=true then 0 else 2,0,goE (λi=>zb1 v.c (at_ Run.o v.al i)) v.al.length,goE (zbq v.ds) v.ds.length,if v.ds.length=0 then 17 else 0,zbs v.mp v.c]=2 from(hbad (by rw[he];decide)).trans he]
    (conv=>whnf);repeat(first|refine Ex.g ?_|refine yaX (hW1) ?_|refine yaX (hW2) ?_|refine Ex.om ?_);conv=>whnf
    refine .z [] ?_;exact ydX rfl
   ·have he:zb1 v.c (at_ Run.o v.al d)=0:=by unfold zb1;rw[hp,hq];rfl
    (conv=>whnf);repeat(first|refine Ex.g ?_|refine yaX (hW1) ?_|refine yaX (hW2) ?_|refine Ex.om ?_);conv=>whnf
    refine⟨d+1,⟨hlt,λj hj=> ?_⟩,by dsimp only;omega,?_⟩
    ·by_cases e:j=d
     ·rw[e];exact he
     ·exact hI j zo
    ·exact Ex.wO [0] []
 have ha0:goE (λi=>zb1 v.c (at_ Run.o v.al i)) v.al.length=0:=zcp λk hk=>hI k zo;rw[ha0]
 (conv=>whnf);repeat((refine Ex.om ?_;conv=>whnf))
 refine yFX zal (D:=Nat) (λd=>v.ds.length-d) (λd=>d<=v.ds.length/\∀j,j<d->zbq v.ds j=0) (λd=>zag [(1, .ptr 0 0),(2,ib 0),(58,LS 1 aI 0 v.ds),(59,ib v.ds.length),(60,ib d)] 93) (λd=>zan [.row (aPt v) 26 0]) 0 ⟨ymX _,λj hj=>absurd hj (ypX _)⟩ ?_ ?_
 ·exact Ex.wO [0] []
 clear hI hd;rintro d ⟨hd,hI⟩;by_cases hlt:d<v.ds.length
 ·have hW1:=za6 (at_ 0 v.ds d) 1 2147483647
  have hbad:zbq v.ds d≠0->Ck.first [0,0,0,goE (zbq v.ds) v.ds.length,if v.ds.length=0 then 17 else 0,zbs v.mp v.c]=zbq v.ds d:=λhe=>by
   rw[zaM,zaM,zaM,zco hI hlt he,zaU he]
  obtain⟨p,hp⟩:∃p,wi (at_ 0 v.ds d) 1 2147483647=p:=⟨_,rfl⟩
  rw[hp] at hW1;cases p
  ·have he:zbq v.ds d=2:=by unfold zbq;rw[hp];rfl
   rw[show Ck.first [if true=true then 0 else 2,0,0,goE (zbq v.ds) v.ds.length,if v.ds.length=0 then 17 else 0,zbs v.mp v.c]=2 from(hbad (by rw[he];decide)).trans he]
   (conv=>whnf);repeat(first|refine Ex.g ?_|refine yaX (hW1) ?_|refine Ex.om ?_);conv=>whnf
   refine .z [] ?_;exact ydX rfl
  ·have next:zbq v.ds d=0->d+1<=v.ds.length/\∀j,j<d+1->zbq v.ds j=0:=λhe=>⟨hlt,λj hj=>by
    by_cases e:j=d
    ·rw[e];exact he
    ·exact hI j zo⟩
   cases d with
   |zero=>
    have he:zbq v.ds 0=0:=by unfold zbq;rw[hp,ygX rfl,yfX zo]
    (conv=>whnf);repeat(first|refine Ex.g ?_|refine yaX (hW1) ?_|refine Ex.om ?_);conv=>whnf
    refine⟨0+1,next he,by dsimp only;omega,?_⟩;exact Ex.wO [0] []
   |succ d=>
    have hj:(((d+1:Nat):Int)-1).toNat=d:=zo;have hix:0<=((d+1:Nat):Int)-1/\((d+1:Nat):Int)-1<v.ds.length:=zo;by_cases hle:at_ 0 v.ds (d+1)<=at_ 0 v.ds d
    ·have he:zbq v.ds (d+1)=9:=by unfold zbq;rw[hp,ygX rfl,ygX ⟨zo,hle⟩]
     have hle':at_ 0 v.ds (d+1)<=at_ 0 v.ds (((d+1:Nat):Int)-1).toNat:=by rw[hj];exact hle
     rw[show Ck.first [if true=true then 0 else 2,0,0,goE (zbq v.ds) v.ds.length,if v.ds.length=0 then 17 else 0,zbs v.mp v.c]=9 from(hbad (by rw[he];decide)).trans he]
     (conv=>whnf);repeat(first|refine Ex.g ?_|refine yaX (hW1) ?_|refine Ex.om ?_);conv=>whnf
     refine .z [] ?_;exact ydX rfl
    ·have he:zbq v.ds (d+1)=0:=by unfold zbq;rw[hp,ygX rfl,yfX (λc=>hle c.2)]
     have hle':¬at_ 0 v.ds (d+1)<=at_ 0 v.ds (((d+1:Nat):Int)-1).toNat:=by rw[hj];exact hle
     (conv=>whnf);repeat(first|refine Ex.g ?_|refine yaX (hW1) ?_|refine Ex.om ?_);conv=>whnf
     refine⟨d+1+1,next he,by dsimp only;omega,?_⟩;exact Ex.wO [0] []
 have hd0:goE (zbq v.ds) v.ds.length=0:=zcp λk hk=>hI k zo;rw[hd0];by_cases hz:v.ds.length=0
 ·rw[ygX hz];have hf:=zf6 [17,zbs v.mp v.c] (by decide:(2:Nat)<=1000000);have hU:=zbi (decide (0<(v.ds.length:Int))) 17;rw[yfX (by rw[hz];decide)] at hU
  (conv=>whnf);repeat(first|refine Ex.g ?_|refine yxX (hU) ?_|refine yxX (hM) ?_|refine DCall.frz [1] (hf) ⟨yzZ rfl (by simp) rfl (yhX 2) (λ_ _=>rfl) rfl (λ_ _=>rfl),zT⟩ ?_|refine Ex.om ?_);conv=>whnf
  refine .z [] ?_;exact ydX rfl
 ·rw[yfX hz];have hf:=zf6 [0,zbs v.mp v.c] (by decide:(2:Nat)<=1000000);have hU:=zbi (decide (0<(v.ds.length:Int))) 17;rw[ygX (ybX zo)] at hU
  (conv=>whnf);repeat(first|refine Ex.g ?_|refine yxX (hU) ?_|refine yxX (hM) ?_|refine DCall.frz [1] (hf) ⟨yzZ rfl (by simp) rfl (yhX 2) (λ_ _=>rfl) rfl (λ_ _=>rfl),zT⟩ ?_|refine Ex.om ?_);conv=>whnf
  refine .z [] ?_;exact ydX rfl
theorem zkr (v:Pt) (h:FitP v):PureC Tryz.prog 12 [zbF v] (.tup [ib (Ck.zhw v),ib (Ck.zbH v)]):=by
 have hW:=zou v h.f.al h.f.ds h.mp;have hfr:=h.f.rs;unfold zhw zbH;refine ytX zal rfl ?_;by_cases hw:zbG v=0
 ·rw[yfX (λc=>c hw),hw,zaM];rw[hw] at hW;by_cases h5:v.rs.length<=5
  ·have hre:za9 v=6:=by unfold za9;rw[ygX (.inl h5)]
   rw[hre,ygX (by decide),zaU (by decide)]
   (conv=>whnf);repeat(first|refine Ex.g ?_|refine yaX (hW) ?_|refine Ex.om ?_);conv=>whnf
   refine .z [] ?_;unfold Wz;exact Wzc (ydX rfl) (Wzc (ydX rfl) Wzn)
  ·have hix:(0:Int)<=5/\(5:Int)<v.rs.length:=zo;cases hu:(at_ Rc.o v.rs 5).u
   ·have hre:za9 v=6:=by unfold za9;rw[ygX (.inr (.inl hu))]
    rw[hre,ygX (by decide),zaU (by decide)]
    (conv=>whnf);repeat(first|refine Ex.g ?_|refine yaX (hW) ?_|refine Ex.om ?_);conv=>whnf
    refine .z [] ?_;unfold Wz;exact Wzc (ydX rfl) (Wzc (ydX rfl) Wzn)
   ·by_cases hk:(at_ Rc.o v.rs 5).k=0
    ·have hre:za9 v=0:=by unfold za9;rw[yfX (λc=>c.elim h5 λc=>c.elim (λc=>by rw[hu] at c;cases c) λc=>c hk)]
     rw[hre,yfX (λc=>c rfl),zaM];unfold zhl
     have hR:∀d,d<v.rs.length->PureC Tryz.prog 47 [ib (d:Nat),zpy (at_ Rc.o v.rs d)] (ib (zbx d (at_ Rc.o v.rs d))):=λd hd=>by
      have hm:=at_mem Rc.o v.rs d hd;exact zmm d _ (h.f.ns _ hm) (h.f.ss _ hm) (h.f.es _ hm) (h.f.rr _ hm) (h.nl _ hm) (h.el _ hm)
     (conv=>whnf);repeat(first|refine Ex.g ?_|refine yaX (hW) ?_|refine KIf.f (yqX Bool.not (ybX hk)) ?_|refine Ex.om ?_);conv=>whnf
     refine yFX zal (D:=Nat) (λd=>v.rs.length-d) (λd=>d<=v.rs.length/\∀j,j<d->zbx j (at_ Rc.o v.rs j)=0) (λd=>zag [(1, .ptr 0 0),(2,ib 0),(3,ib 0),(34,LS 10 aRc Rc.o v.rs),(35,ib v.rs.length),(36,ib d)] 49) (λd=>zan [.row (aPt v) 26 0]) 0 ⟨ymX _,λj hj=>absurd hj (ypX _)⟩ ?_ ?_
     ·exact Ex.wO [0] []
     rintro d ⟨hd,hI⟩;by_cases hlt:d<v.rs.length
     ·have hE:=hR d hlt;by_cases he:zbx d (at_ Rc.o v.rs d)=0
      ·(conv=>whnf);repeat(first|refine Ex.g ?_|refine yaX (hE) ?_|refine KIf.f (yqX Bool.not (ybX he)) ?_|refine Ex.om ?_);conv=>whnf
       refine⟨d+1,⟨hlt,λj hj=> ?_⟩,by dsimp only;omega,?_⟩
       ·by_cases e:j=d
        ·rw[e];exact he
        ·exact hI j zo
       ·exact Ex.wO [0] []
      ·rw[zco (E:=λi=>zbx i (at_ Rc.o v.rs i)) hI hlt he,zj4 (λi=>zbx i (at_ Rc.o v.rs i)) (zfz _ d hI) he _ hlt,zaU he]
       (conv=>whnf);repeat(first|refine Ex.g ?_|refine yaX (hE) ?_|refine KIf.t (yqX Bool.not (ycX he)) ?_|refine Ex.om ?_);conv=>whnf
       refine .z [] ?_;unfold Wz;exact Wzc (ydX rfl) (Wzc (ydX rfl) Wzn)
     ·have h0:goE (λi=>zbx i (at_ Rc.o v.rs i)) v.rs.length=0:=zcp λk hk=>hI k zo;rw[zn0 _ _ h0,h0]
      (conv=>whnf);repeat((refine Ex.om ?_;conv=>whnf))
      refine .z [] ?_;unfold Wz;exact Wzc (ydX rfl) (Wzc (ydX rfl) Wzn)
    ·have hre:za9 v=6:=by unfold za9;rw[ygX (.inr (.inr hk))]
     rw[hre,ygX (by decide),zaU (by decide)]
     (conv=>whnf);repeat(first|refine Ex.g ?_|refine yaX (hW) ?_|refine KIf.t (yqX Bool.not (ycX hk)) ?_|refine Ex.om ?_);conv=>whnf
     refine .z [] ?_;unfold Wz;exact Wzc (ydX rfl) (Wzc (ydX rfl) Wzn)
 ·rw[ygX hw,zaU hw]
  (conv=>whnf);repeat(first|refine yaX (hW) ?_|refine KIf.t (yqX Bool.not (ycX hw)) ?_);conv=>whnf
  refine .z [] ?_;unfold Wz;exact Wzc (ydX rfl) (Wzc (ydX rfl) Wzn)
end Go.Proofs.YtgcjejajljhnaaaGreatDoor
namespace Ck
open Go Go.Ex
def butL :List UInt8:=[34,42,47,58,60,62,63,92,124]
theorem zvH {c:UInt8} {d:Nat} (hd:d<9) (h:gd 0 butL d=c):zaQ c=false:=by
 have hm:c∈butL:=by
  rw[←h];have:gd 0 butL d=at_ 0 butL d:=rfl;rw[this];exact at_mem 0 butL d hd
 unfold zaQ
 have:butL.contains c=true:=by simpa using hm
 unfold butL at this;rw[this];simp
theorem zvG {c:UInt8} (h1:32<=c.toNat/\c.toNat<=126) (h:∀d,d<9->gd 0 butL d≠c):zaQ c=true:=by
 unfold zaQ;rw[ybX h1.1,ybX h1.2]
 have:butL.contains c=false:=by
  cases e:butL.contains c
  ·rfl
  ·have hm:c∈butL:=by simpa using e
   obtain⟨i,hi,hx⟩:=yTX hm;exfalso;refine h i hi ?_;have:gd 0 butL i=at_ 0 butL i:=rfl;rw[this,zaS _ _ _ hi];exact hx
 unfold butL at this;rw[this];rfl
theorem zoV :zdr []=false:=rfl
theorem zq1 {s:List UInt8} (h0:s≠[]) (hl:s.length<=32):zdr s=(s.all zaQ&&(!decide (s=[46,46])&&(!decide (gd 0 s (s.length-1)=32)&& !decide (gd 0 s (s.length-1)=46)))):=by
 have hp:0<s.length:=yXX.2 h0
 have hlast:s.getLast? =some (gd 0 s (s.length-1)):=by
  have:gd 0 s (s.length-1)=at_ 0 s (s.length-1):=rfl;rw[List.getLast?_eq_getElem?,this,zaS _ _ _ zo,ysX zo]
 unfold zdr;rw[hlast];generalize gd 0 s (s.length-1)=g
 have e1:(s !=[])=true:=by simpa using h0
 have e2:(s !=[46,46])= !decide (s=[46,46]):=by
  by_cases h:s=[46,46]
  ·simp[h]
  ·simp[h]
 have e3:∀c:UInt8,(some g !=some c)= !decide (g=c):=λc=>by
  by_cases h:g=c
  ·simp[h]
  ·simp[h]
 rw[e1,e2,e3,e3,ybX hl];simp only[y3X,Bool.and_assoc]
end Ck
namespace Go.Proofs.YtgcjejajljhnaaaGreatDoor
open Go.Ex Ck
set_option maxRecDepth 100000
set_option maxHeartbeats 8000000
theorem zs1 (c:UInt8):PureC Tryz.prog 138 [.sc (.int .u8 c.toNat)] (bb (zaQ c)):=by
 refine ytX zal rfl ?_;by_cases h1:c.toNat<32
 ·have hf:zaQ c=false:=by unfold zaQ;rw[ycX zo];rfl
  rw[hf]
  (conv=>whnf);repeat(first|refine Ex.g ?_|refine Ex.om ?_);conv=>whnf
  refine .z [] ?_;exact ydX rfl
 by_cases h2:126<c.toNat
 ·have hf:zaQ c=false:=by unfold zaQ;rw[ycX (show ¬c.toNat<=126 by omega),Bool.and_false];rfl
  rw[hf]
  (conv=>whnf);repeat((refine Ex.om ?_;conv=>whnf))
  refine .z [] ?_;exact ydX rfl
 (conv=>whnf);repeat((refine Ex.om ?_;conv=>whnf))
 refine yFX zal (D:=Nat) (λd=>9-d) (λd=>d<=9/\∀j,j<d->gd 0 butL j≠c) (λd=>zag [(0, .sc (.int .u8 c.toNat)),(2,bb false),(3,ib d)] 18) (λd=>zan []) 0 ⟨ymX _,λj hj=>absurd hj (ypX _)⟩ ?_ ?_
 ·exact Ex.wO [] []
 rintro d ⟨hd,hI⟩;by_cases hlt:d<9
 ·have hix:(0:Int)<=d/\(d:Int)<([34,42,47,58,60,62,63,92,124]:List UInt8).length:=by
   show(0:Int)<=d/\(d:Int)<9;omega
  by_cases he:gd 0 butL d=c
  ·rw[zvH hlt he]
   have he2:((gd 0 butL d).toNat:Int)=(c.toNat:Int):=by rw[he]
   (conv=>whnf);repeat(first|refine Ex.g ?_|refine Ex.om ?_);conv=>whnf
   refine .z [] ?_;exact ydX rfl
  ·have he2:¬((gd 0 butL d).toNat:Int)=(c.toNat:Int):=λe=>he (yxZ.1 zo)
   (conv=>whnf);repeat(first|refine Ex.g ?_|refine Ex.om ?_);conv=>whnf
   refine⟨d+1,⟨hlt,λj hj=> ?_⟩,by dsimp only;omega,?_⟩
   ·by_cases e:j=d
    ·rw[e];exact he
    ·exact hI j zo
   ·exact Ex.wO [] []
 ·rw[zvG zo λj hj=>hI j zo]
  (conv=>whnf);repeat((refine Ex.om ?_;conv=>whnf))
  refine .z [] ?_;exact ydX rfl
theorem ziC (s:List UInt8) (hs:s.length<=100000):PureC Tryz.prog 99 [tb s] (ib (zau s)):=by
 unfold zau;refine ytX zal rfl ?_;by_cases h:32<s.length
 ·rw[ygX h]
  (conv=>whnf);repeat((refine Ex.om ?_;conv=>whnf))
  refine .z [] ?_;exact ydX rfl
 rw[yfX h]
 by_cases h0:s=[]
 ·rw[h0,zoV]
  (conv=>whnf);repeat((refine Ex.g ?_;conv=>whnf))
  refine .z [] ?_;exact ydX rfl
 have hL:=zq1 h0 zo;have hp:0<s.length:=yXX.2 h0
 by_cases h1:s=[46]
 ·have hf:zdr s=false:=by rw[h1];rfl
  rw[hf]
  (conv=>whnf);repeat(first|refine Ex.g ?_|refine Ex.om ?_);conv=>whnf
  refine .z [] ?_;exact ydX rfl
 by_cases h2:s=[46,46]
 ·have hf:zdr s=false:=by rw[h2];rfl
  rw[hf]
  (conv=>whnf);repeat(first|refine Ex.g ?_|refine Ex.om ?_);conv=>whnf
  refine .z [] ?_;exact ydX rfl
 have hix:0<=(s.length:Int)-1/\(s.length:Int)-1<s.length:=zo;have hn:((s.length:Int)-1).toNat=s.length-1:=zo
 have hcmp:∀(c:UInt8) (n:Int),n=(c.toNat:Int)->((((gd 0 s ((s.length:Int)-1).toNat).toNat:Nat):Int)=n↔gd 0 s (s.length-1)=c):=λc n e=>by
  rw[hn,e];constructor
  ·exact λe=>yxZ.1 zo
  ·exact λe=>by rw[e]
 have c32:=hcmp 32 32 rfl;have c46:=hcmp 46 46 rfl;by_cases h3:gd 0 s (s.length-1)=32
 ·have hf:zdr s=false:=by rw[hL,ybX h3];simp
  rw[hf]
  (conv=>whnf);repeat(first|refine Ex.g ?_|refine KIf.t (ybX (c32.2 h3)) ?_|refine Ex.om ?_);conv=>whnf
  refine .z [] ?_;exact ydX rfl
 by_cases h4:gd 0 s (s.length-1)=46
 ·have hf:zdr s=false:=by rw[hL,ybX h4];simp
  rw[hf]
  (conv=>whnf);repeat(first|refine Ex.g ?_|refine KIf.f (ycX (λe=>h3 (c32.1 e))) ?_|refine KIf.t (ybX (c46.2 h4)) ?_|refine Ex.om ?_);conv=>whnf
  refine .z [] ?_;exact ydX rfl
 rw[ycX h2,ycX h3,ycX h4] at hL
 (conv=>whnf);repeat(first|refine Ex.g ?_|refine KIf.f (ycX (λe=>h3 (c32.1 e))) ?_|refine KIf.f (ycX (λe=>h4 (c46.1 e))) ?_|refine Ex.om ?_);conv=>whnf
 refine yFX zal (D:=Nat) (λd=>s.length-d) (λd=>d<=s.length/\∀j,j<d->zaQ (gd 0 s j)=true) (λd=>zag [(0,tb s),(2,ib 0),(3,ib d)] 44) (λd=>zan []) 0 ⟨ymX _,λj hj=>absurd hj (ypX _)⟩ ?_ ?_
 ·exact Ex.wO [] []
 rintro d ⟨hd,hI⟩;by_cases hlt:d<s.length
 ·have hE:=zs1 (gd 0 s d)
  obtain⟨b,hb⟩:∃b,zaQ (gd 0 s d)=b:=⟨_,rfl⟩
  have hid:(0:Int)<=d/\(d:Int)<s.length:=zo;rw[hb] at hE;cases b
  ·have ha:s.all zaQ=false:=by
    rw[List.all_eq_false];exact⟨_,at_mem 0 s d hlt,by rw[show at_ 0 s d=gd 0 s d from rfl,hb];decide⟩
   rw[hL,ha]
   (conv=>whnf);repeat(first|refine Ex.g ?_|refine yaX (hE) ?_|refine Ex.om ?_);conv=>whnf
   refine .z [] ?_;exact ydX rfl
  ·(conv=>whnf);repeat(first|refine Ex.g ?_|refine yaX (hE) ?_|refine Ex.om ?_);conv=>whnf
   refine⟨d+1,⟨hlt,λj hj=> ?_⟩,by dsimp only;omega,?_⟩
   ·by_cases e:j=d
    ·rw[e];exact hb
    ·exact hI j zo
   ·exact Ex.wO [] []
 ·have ha:s.all zaQ=true:=by
   rw[yNY];intro x hx;obtain⟨i,hi,rfl⟩:=yTX hx;have:=hI i zo;rw[show gd 0 s i=at_ 0 s i from rfl,zaS _ _ _ hi] at this;exact this
  rw[hL,ha]
  (conv=>whnf);repeat((refine Ex.om ?_;conv=>whnf))
  refine .z [] ?_;exact ydX rfl
theorem zfo (r:Ref):PureC Tryz.prog 97 [.agg (ze1 r)] (ib (zaJ r)):=by
 unfold zaJ;have h1:=za5 r.r 0 95;have h2:=za5 r.q 1 65535;refine ytX zal rfl ?_;cases e:wi r.r 0 95
 ·rw[e] at h1
  (conv=>whnf);repeat(first|refine Ex.g ?_|refine yaX (h1) ?_);conv=>whnf
  refine .z [] ?_;exact ydX rfl
 ·rw[e] at h1;cases e2:wi r.q 1 65535
  ·rw[e2] at h2
   (conv=>whnf);repeat(first|refine Ex.g ?_|refine yaX (h1) ?_|refine yaX (h2) ?_);conv=>whnf
   refine .z [] ?_;exact ydX rfl
  ·rw[e2] at h2
   (conv=>whnf);repeat(first|refine Ex.g ?_|refine yaX (h1) ?_|refine yaX (h2) ?_);conv=>whnf
   refine .z [] ?_;exact ydX rfl
theorem znL (n:Int):PureC Tryz.prog 96 [ib n] (bb (num n)):=by
 refine ytX zal rfl ?_
 (conv=>whnf);repeat((refine yaX (za5 _ _ _) ?_;conv=>whnf))
 refine .z [] ?_;exact ydX rfl
theorem zjF (n:Int):PureC Tryz.prog 98 [ib n] (ib (zdI n)):=by
 unfold zdI;refine ytX zal rfl ?_;by_cases h:n=5
 ·rw[ygX h]
  (conv=>whnf);repeat((refine Ex.g ?_;conv=>whnf))
  refine .z [] ?_;exact ydX rfl
 ·rw[yfX h]
  (conv=>whnf);repeat((refine Ex.g ?_;conv=>whnf))
  refine .z [] ?_;exact ydX rfl
theorem zk4 (x:Sm) (hx:x.r.length<=100000):PureC Tryz.prog 100 [.agg (aSm x)] (ib (zcd x)):=by
 unfold zcd;refine ytX zal rfl ?_;by_cases h:24<x.r.length
 ·rw[ygX h]
  (conv=>whnf);repeat((refine Ex.om ?_;conv=>whnf))
  refine .z [] ?_;exact ydX rfl
 rw[yfX h]
 (conv=>whnf);repeat((refine Ex.om ?_;conv=>whnf))
 refine yFX zal (D:=Nat) (λd=>x.r.length-d) (λd=>d<=x.r.length/\∀j,j<d->za1 (at_ Run.o x.r j)=false) (λd=>zag [(1, .ptr 0 0),(2,ib 0),(3,ib d)] 37) (λd=>zan [.row (aSm x) 80 0]) 0 ⟨ymX _,λj hj=>absurd hj (ypX _)⟩ ?_ ?_
 ·exact Ex.wO [0] []
 rintro d ⟨hd,hI⟩;by_cases hlt:d<x.r.length
 ·have h1:=za5 (at_ Run.o x.r d).s (-1) 2147483647;have h2:=za5 (at_ Run.o x.r d).l 1 512;have hany:za1 (at_ Run.o x.r d)=true->x.r.any za1=true:=λe=>yZY.2 ⟨_,at_mem Run.o x.r d hlt,e⟩
  obtain⟨a,ha⟩:∃a,wi (at_ Run.o x.r d).s (-1) 2147483647=a:=⟨_,rfl⟩
  obtain⟨b,hb⟩:∃a,wi (at_ Run.o x.r d).l 1 512=a:=⟨_,rfl⟩
  rw[ha] at h1;rw[hb] at h2;cases a
  ·rw[hany (by unfold za1;rw[ha];rfl)]
   (conv=>whnf);repeat(first|refine Ex.g ?_|refine yaX (h1) ?_|refine Ex.om ?_);conv=>whnf
   refine .z [] ?_;exact ydX rfl
  cases b
  ·rw[hany (by unfold za1;rw[ha,hb];rfl)]
   (conv=>whnf);repeat(first|refine Ex.g ?_|refine yaX (h1) ?_|refine yaX (h2) ?_|refine Ex.om ?_);conv=>whnf
   refine .z [] ?_;exact ydX rfl
  (conv=>whnf);repeat(first|refine Ex.g ?_|refine yaX (h1) ?_|refine yaX (h2) ?_|refine Ex.om ?_);conv=>whnf
  refine⟨d+1,⟨hlt,λj hj=> ?_⟩,by dsimp only;omega,?_⟩
  ·by_cases e:j=d
   ·rw[e];unfold za1;rw[ha,hb];rfl
   ·exact hI j zo
  ·exact Ex.wO [0] []
 ·have hno:x.r.any za1=false:=by
   rw[ySY];intro y hy;obtain⟨i,hi,rfl⟩:=yTX hy;have:=hI i zo;rw[zaS _ _ _ hi] at this;rw[this];decide
  have hN:=znL x.z;rw[hno];cases e:num x.z
  ·rw[e] at hN
   (conv=>whnf);repeat(first|refine Ex.g ?_|refine yaX (hN) ?_|refine Ex.om ?_);conv=>whnf
   refine .z [] ?_;exact ydX rfl
  ·rw[e] at hN
   (conv=>whnf);repeat(first|refine Ex.g ?_|refine yaX (hN) ?_|refine Ex.om ?_);conv=>whnf
   refine .z [] ?_;exact ydX rfl
theorem zk5 (i:Int) (x:Rc) (h1:x.ns.length<=100000) (h2:x.ss.length<=100000) (h3:x.es.length<=100000) (h4:∀y∈x.ss,y.r.length<=100000) (h5:∀y∈x.ns,y.n.length<=100000) (h6:∀y∈x.es,y.n.length<=100000):PureC Tryz.prog 51 [zpy x,ib i] (ib (zbx i x)):=by
 have hA:=za5 x.q 1 65535;have hB:=za5 x.k 0 3;have hC:=znL x.ln;have hD:=znL x.ds
 have hk:wi x.k 0 3=true->0<=x.k/\x.k<=3:=λe=>by unfold wi at e;simpa using e
 have hln:num x.ln=true->0<=x.ln/\x.ln<=2147483647:=λe=>by unfold num wi at e;simpa using e
 have hds:num x.ds=true->0<=x.ds/\x.ds<=2147483647:=λe=>by unfold num wi at e;simpa using e
 unfold zbx;rw[ziO];unfold Rc.parts
 generalize wi x.q 1 65535=a at*
 generalize wi x.k 0 3=b at*
 generalize num x.ln=c at*
 generalize num x.ds=d at*
 refine ytX zal rfl ?_;cases a
 ·(conv=>whnf);repeat(first|refine Ex.g ?_|refine yaX (hA) ?_);conv=>whnf
  refine .z [] ?_;exact ydX rfl
 cases b
 ·(conv=>whnf);repeat(first|refine Ex.g ?_|refine yaX (hA) ?_|refine yaX (hB) ?_);conv=>whnf
  refine .z [] ?_;exact ydX rfl
 cases c
 ·(conv=>whnf);repeat(first|refine Ex.g ?_|refine yaX (hA) ?_|refine yaX (hB) ?_|refine yaX (hC) ?_);conv=>whnf
  refine .z [] ?_;exact ydX rfl
 cases d
 ·(conv=>whnf);repeat(first|refine Ex.g ?_|refine yaX (hA) ?_|refine yaX (hB) ?_|refine yaX (hC) ?_|refine yaX (hD) ?_);conv=>whnf
  refine .z [] ?_;exact ydX rfl
 have hk:=hk rfl;have hln:=hln rfl;have hds:=hds rfl;have e0:(!true||(!true||(!true|| !true)))=false:=rfl;rw[yfX (by rw[e0];decide)];have hS:((x.ns.length+x.ss.length+x.es.length:Nat):Int)=(x.ns.length:Int)+(x.ss.length:Int)+(x.es.length:Int):=zo
 have hcase:(x.u=false/\¬x.b=Ref.o)∨(x.u=false/\x.b=Ref.o/\0<x.ln+x.ds+((x.ns.length+x.ss.length+x.es.length:Nat):Int)+x.k)∨(x.u=true/\x.k=3/\¬zaJ x.b=0)∨(x.u=true/\¬x.k=3/\¬x.b=Ref.o)∨(x.u=false/\x.b=Ref.o/\¬0<x.ln+x.ds+((x.ns.length+x.ss.length+x.es.length:Nat):Int)+x.k/\¬x.k=3)∨(x.u=true/\x.k=3/\zaJ x.b=0)∨(x.u=true/\¬x.k=3/\x.b=Ref.o):=by
  cases hu:x.u
  ·by_cases hb:x.b=Ref.o
   ·by_cases hs:0<x.ln+x.ds+((x.ns.length+x.ss.length+x.es.length:Nat):Int)+x.k
    ·exact .inr (.inl ⟨rfl,hb,hs⟩)
    ·exact .inr (.inr (.inr (.inr (.inl ⟨rfl,hb,hs,zo⟩))))
   ·exact .inl ⟨rfl,hb⟩
  ·by_cases h3:x.k=3
   ·by_cases hr:zaJ x.b=0
    ·exact .inr (.inr (.inr (.inr (.inr (.inl ⟨rfl,h3,hr⟩)))))
    ·exact .inr (.inr (.inl ⟨rfl,h3,hr⟩))
   ·by_cases hb:x.b=Ref.o
    ·exact .inr (.inr (.inr (.inr (.inr (.inr ⟨rfl,h3,hb⟩)))))
    ·exact .inr (.inr (.inr (.inl ⟨rfl,h3,hb⟩)))
 have hgood:x.u=true->¬(!x.u&&(!decide (x.b=Ref.o)||decide (0<x.ln+x.ds+((x.ns.length+x.ss.length+x.es.length:Nat):Int)+x.k)))=true:=λhu=>by rw[hu];simp
 rcases hcase with⟨hu,hb⟩|⟨hu,hb,hs⟩|⟨hu,h3,hr⟩|⟨hu,h3,hb⟩|⟨hu,hb,hs,h3⟩|⟨hu,h3,hr⟩|⟨hu,h3,hb⟩
 ·rw[ygX (by rw[hu,ycX hb];rfl)]
  (conv=>whnf);repeat(first|refine Ex.g ?_|refine yaX (hA) ?_|refine yaX (hB) ?_|refine yaX (hC) ?_|refine yaX (hD) ?_|refine yKY (zaH x.b Ref.o) ?_|refine KIf.t (yqX Bool.not (ycX hb)) ?_);conv=>whnf
  refine .z [] ?_;exact ydX rfl
 ·rw[ygX (by rw[hu,ybX hb,ybX hs];rfl)];by_cases z1:x.ln=0
  all_goals by_cases z2:x.ds=0
  all_goals by_cases z3:x.ns.length+x.ss.length+x.es.length=0
  all_goals by_cases z4:x.k=0
  all_goals first|(exfalso;omega)|skip
  all_goals
   (conv=>whnf);repeat(first|refine Ex.g ?_|refine yaX (hA) ?_|refine yaX (hB) ?_|refine yaX (hC) ?_|refine yaX (hD) ?_|refine yKY (zaH x.b Ref.o) ?_|refine KIf.f (yqX Bool.not (ybX hb)) ?_|refine Ex.om ?_);conv=>whnf
   refine .z [] ?_;exact ydX rfl
 ·rw[yfX (hgood hu),ygX h3,ygX hr]
  (conv=>whnf);repeat(first|refine Ex.g ?_|refine yaX (hA) ?_|refine yaX (hB) ?_|refine yaX (hC) ?_|refine yaX (hD) ?_|refine yaX (zfo x.b) ?_|refine KIf.t (yqX Bool.not (ycX hr)) ?_);conv=>whnf
  refine .z [] ?_;exact ydX rfl
 ·rw[yfX (hgood hu),yfX h3,yfX hb,ygX (by decide)]
  (conv=>whnf);repeat(first|refine Ex.g ?_|refine yaX (hA) ?_|refine yaX (hB) ?_|refine yaX (hC) ?_|refine yaX (hD) ?_|refine yKY (zaH x.b Ref.o) ?_|refine KIf.t (yqX Bool.not (ycX hb)) ?_|refine Ex.om ?_);conv=>whnf
  refine .z [] ?_;exact ydX rfl
 all_goals
  first|rw[yfX (hgood hu),ygX h3,yfX (λc=>c hr)]|rw[yfX (hgood hu),yfX h3,ygX hb,yfX (λc=>c rfl)]|rw[yfX (by rw[hu,ybX hb,ycX hs];decide),yfX h3,ygX hb,yfX (λc=>c rfl)]
  (conv=>whnf);repeat(first|refine Ex.g ?_|refine yaX (hA) ?_|refine yaX (hB) ?_|refine yaX (hC) ?_|refine yaX (hD) ?_|refine yKY (zaH x.b Ref.o) ?_|refine KIf.f (yqX Bool.not (ybX hb)) ?_|refine yaX (zfo x.b) ?_|refine KIf.f (yqX Bool.not (ybX hr)) ?_|refine Ex.om ?_);conv=>whnf
  by_cases h8:8<x.ns.length∨8<x.ss.length∨zdI i<x.es.length
  ·rw[ygX h8];by_cases n8:8<x.ns.length
   ·try(exfalso;omega;done)
    all_goals
     (conv=>whnf);repeat(first|refine Ex.g ?_|refine Ex.om ?_);conv=>whnf
     refine .z [] ?_;exact ydX rfl
   by_cases s8:8<x.ss.length
   ·try(exfalso;omega;done)
    all_goals
     (conv=>whnf);repeat(first|refine Ex.g ?_|refine Ex.om ?_);conv=>whnf
     refine .z [] ?_;exact ydX rfl
   try(exfalso;omega;done)
   all_goals
    (conv=>whnf);repeat(first|refine yxX (zjF i) ?_|refine Ex.om ?_);conv=>whnf
    refine .z [] ?_;exact ydX rfl
  rw[yfX h8];by_cases h9:(0<x.es.length/\x.k≠0)∨(0<x.ns.length/\(x.k=3∨i<16))
  ·rw[ygX h9];by_cases p1:0<x.es.length
   all_goals by_cases p2:x.k=0
   all_goals by_cases p3:0<x.ns.length
   all_goals by_cases p4:i<16
   all_goals first|(exfalso;omega)|skip
   all_goals
    (conv=>whnf);repeat(first|refine Ex.g ?_|refine yxX (zjF i) ?_|refine Ex.om ?_);conv=>whnf
    refine .z [] ?_;exact ydX rfl
  ·rw[yfX h9];by_cases p1:0<x.es.length
   all_goals by_cases p3:0<x.ns.length
   all_goals first|(exfalso;omega)|skip
   all_goals
    (conv=>whnf);repeat(first|refine Ex.g ?_|refine yxX (zjF i) ?_|refine Ex.om ?_);conv=>whnf
    refine yFX zal (D:=Nat) (λd=>x.ns.length-d) (λd=>d<=x.ns.length/\∀j,j<d->zdc (at_ Nm.o x.ns j)=0) (λd=>zag [(1,ib i),(2, .ptr 0 0),(4,ib 0),(7,ib d)] 214) (λd=>zan [.row (aRc x) 66 0]) 0 ⟨ymX _,λj hj=>absurd hj (ypX _)⟩ ?_ ?_
    ·exact Ex.wO [0] []
    rintro d ⟨hd,hI⟩;by_cases hlt:d<x.ns.length
    ·have hm:=at_mem Nm.o x.ns d hlt
     have hz:∀e,zdc (at_ Nm.o x.ns d)=e->e≠0->Ck.first [0,zdH x,zcZ x,zdg x]=e:=λe he1 he=>by
      rw[←he1] at he;rw[←he1];unfold zdH;rw[zaM,zco hI hlt he,zaU he]
     have next:zdc (at_ Nm.o x.ns d)=0->d+1<=x.ns.length/\∀j,j<d+1->zdc (at_ Nm.o x.ns j)=0:=λhe=>⟨hlt,λj hj=>by
      by_cases e:j=d
      ·rw[e];exact he
      ·exact hI j zo⟩
     have hr1:=zfo (at_ Nm.o x.ns d).d;have hr2:=ziC (at_ Nm.o x.ns d).n (h5 _ hm);by_cases q1:zaJ (at_ Nm.o x.ns d).d=0
     ·by_cases q2:zau (at_ Nm.o x.ns d).n=0
      ·(conv=>whnf);repeat(first|refine Ex.g ?_|refine yaX (hr1) ?_|refine yaX (hr2) ?_|refine KIf.f (yqX Bool.not (ybX q1)) ?_|refine KIf.f (yqX Bool.not (ybX q2)) ?_|refine Ex.om ?_);conv=>whnf
       refine⟨d+1,next (by unfold zdc;rw[ygX q1];exact q2),by dsimp only;omega,?_⟩;exact Ex.wO [0] []
      ·rw[hz (zau (at_ Nm.o x.ns d).n) (by unfold zdc;rw[ygX q1]) q2]
       (conv=>whnf);repeat(first|refine Ex.g ?_|refine yaX (hr1) ?_|refine yaX (hr2) ?_|refine KIf.f (yqX Bool.not (ybX q1)) ?_|refine KIf.t (yqX Bool.not (ycX q2)) ?_|refine Ex.om ?_);conv=>whnf
       refine .z [] ?_;exact ydX rfl
     ·rw[hz (zaJ (at_ Nm.o x.ns d).d) (by unfold zdc;rw[yfX q1]) q1]
      (conv=>whnf);repeat(first|refine Ex.g ?_|refine yaX (hr1) ?_|refine KIf.t (yqX Bool.not (ycX q1)) ?_|refine Ex.om ?_);conv=>whnf
      refine .z [] ?_;exact ydX rfl
    have hn0:zdH x=0:=zcp λk hk=>hI k zo
    (conv=>whnf);repeat((refine Ex.om ?_;conv=>whnf))
    refine yFX zal (D:=Nat) (λd=>x.ss.length-d) (λd=>d<=x.ss.length/\∀j,j<d->zcd (at_ Sm.o x.ss j)=0) (λd=>zag [(1,ib i),(2, .ptr 0 0),(4,ib 0),(10,ib d)] 214) (λd=>zan [.row (aRc x) 66 0]) 0 ⟨ymX _,λj hj=>absurd hj (ypX _)⟩ ?_ ?_
    ·exact Ex.wO [0] []
    rintro d ⟨hd,hI⟩;by_cases hlt:d<x.ss.length
    ·have hm:=at_mem Sm.o x.ss d hlt
     have hz:∀e,zcd (at_ Sm.o x.ss d)=e->e≠0->Ck.first [0,zdH x,zcZ x,zdg x]=e:=λe he1 he=>by
      rw[←he1] at he;rw[←he1];rw[hn0];unfold zcZ;rw[zaM,zaM,zco hI hlt he,zaU he]
     have next:zcd (at_ Sm.o x.ss d)=0->d+1<=x.ss.length/\∀j,j<d+1->zcd (at_ Sm.o x.ss j)=0:=λhe=>⟨hlt,λj hj=>by
      by_cases e:j=d
      ·rw[e];exact he
      ·exact hI j zo⟩
     have hr1:=zk4 (at_ Sm.o x.ss d) (h4 _ hm);by_cases q1:zcd (at_ Sm.o x.ss d)=0
     ·(conv=>whnf);repeat(first|refine Ex.g ?_|refine yaX (hr1) ?_|refine KIf.f (yqX Bool.not (ybX q1)) ?_|refine Ex.om ?_);conv=>whnf
      refine⟨d+1,next q1,by dsimp only;omega,?_⟩;exact Ex.wO [0] []
     ·rw[hz (zcd (at_ Sm.o x.ss d)) rfl q1]
      (conv=>whnf);repeat(first|refine Ex.g ?_|refine yaX (hr1) ?_|refine KIf.t (yqX Bool.not (ycX q1)) ?_|refine Ex.om ?_);conv=>whnf
      refine .z [] ?_;exact ydX rfl
    have hs0:zcZ x=0:=zcp λk hk=>hI k zo
    (conv=>whnf);repeat((refine Ex.om ?_;conv=>whnf))
    refine yFX zal (D:=Nat) (λd=>x.es.length-d) (λd=>d<=x.es.length/\∀j,j<d->zc5 (at_ En.o x.es j)=0) (λd=>zag [(1,ib i),(2, .ptr 0 0),(4,ib 0),(12,ib d)] 214) (λd=>zan [.row (aRc x) 66 0]) 0 ⟨ymX _,λj hj=>absurd hj (ypX _)⟩ ?_ ?_
    ·exact Ex.wO [0] []
    rintro d ⟨hd,hI⟩;by_cases hlt:d<x.es.length
    ·have hm:=at_mem En.o x.es d hlt
     have hz:∀e,zc5 (at_ En.o x.es d)=e->e≠0->Ck.first [0,zdH x,zcZ x,zdg x]=e:=λe he1 he=>by
      rw[←he1] at he;rw[←he1];rw[hn0,hs0];unfold zdg;rw[zaM,zaM,zaM,zco hI hlt he,zaU he]
     have next:zc5 (at_ En.o x.es d)=0->d+1<=x.es.length/\∀j,j<d+1->zc5 (at_ En.o x.es j)=0:=λhe=>⟨hlt,λj hj=>by
      by_cases e:j=d
      ·rw[e];exact he
      ·exact hI j zo⟩
     have hr1:=ziC (at_ En.o x.es d).n (h6 _ hm);have hr2:=zfo (at_ En.o x.es d).f;have hr3:=znL (at_ En.o x.es d).z;by_cases q1:zau (at_ En.o x.es d).n=0
     ·by_cases q2:zaJ (at_ En.o x.es d).f=0
      ·obtain⟨b,q3⟩:∃b,num (at_ En.o x.es d).z=b:=⟨_,rfl⟩
       rw[q3] at hr3;cases b
       ·rw[hz 2 (by unfold zc5;rw[ygX q1,ygX q2,q3];rfl) (by decide)]
        (conv=>whnf);repeat(first|refine Ex.g ?_|refine yaX (hr1) ?_|refine yaX (hr2) ?_|refine yaX (hr3) ?_|refine KIf.f (yqX Bool.not (ybX q1)) ?_|refine KIf.f (yqX Bool.not (ybX q2)) ?_|refine Ex.om ?_);conv=>whnf
        refine .z [] ?_;exact ydX rfl
       ·(conv=>whnf);repeat(first|refine Ex.g ?_|refine yaX (hr1) ?_|refine yaX (hr2) ?_|refine yaX (hr3) ?_|refine KIf.f (yqX Bool.not (ybX q1)) ?_|refine KIf.f (yqX Bool.not (ybX q2)) ?_|refine Ex.om ?_);conv=>whnf
        refine⟨d+1,next (by unfold zc5;rw[ygX q1,ygX q2,q3];rfl),by dsimp only;omega,?_⟩;exact Ex.wO [0] []
      ·rw[hz (zaJ (at_ En.o x.es d).f) (by unfold zc5;rw[ygX q1,yfX q2]) q2]
       (conv=>whnf);repeat(first|refine Ex.g ?_|refine yaX (hr1) ?_|refine yaX (hr2) ?_|refine KIf.f (yqX Bool.not (ybX q1)) ?_|refine KIf.t (yqX Bool.not (ycX q2)) ?_|refine Ex.om ?_);conv=>whnf
       refine .z [] ?_;exact ydX rfl
     ·rw[hz (zau (at_ En.o x.es d).n) (by unfold zc5;rw[yfX q1]) q1]
      (conv=>whnf);repeat(first|refine Ex.g ?_|refine yaX (hr1) ?_|refine KIf.t (yqX Bool.not (ycX q1)) ?_|refine Ex.om ?_);conv=>whnf
      refine .z [] ?_;exact ydX rfl
    have hens:zdg x=0:=zcp λk hk=>hI k zo;rw[hn0,hs0,hens]
    (conv=>whnf);repeat((refine Ex.om ?_;conv=>whnf))
    refine .z [] ?_;exact ydX rfl
end Go.Proofs.YtgcjejajljhnaaaGreatDoor
namespace Ck
open Go Go.Ex
theorem zrZ (a:UInt8) (r:Nat) (hr:r<8) (h:∀k,r<=k->k<8->a.toNat/2^k%2=0):a.toNat/2^r=0:=by
 have key:∀a:Fin 256,∀r:Fin 8,(∀k:Fin 8,r.1<=k.1->a.1/2^k.1%2=0)->a.1/2^r.1=0:=by decide+kernel
 exact key ⟨a.toNat,a.toNat_lt⟩ ⟨r,hr⟩ λk hk=>h k.1 hk k.2
theorem zwC (d:Nat):((d:Nat):Int).tdiv 8=((d/8:Nat):Int):=by rw[yGY zo];omega
theorem zwA (d:Nat):((d:Nat):Int).tmod 8=((d%8:Nat):Int):=by rw[ymY zo];omega
end Ck
namespace Go.Proofs.YtgcjejajljhnaaaGreatDoor
open Go.Ex Ck
set_option maxRecDepth 100000
set_option maxHeartbeats 8000000
theorem zqO (s:List UInt8) (d:Nat) (hs:s.length<=100000) (h:d<8*s.length):PureC Tryz.prog 114 [tb s,ib (d:Nat)] (ib (zc6 s d:Nat)):=by
 have e1:=zwC d;have e2:=zwA d
 have hq:(8:Int)≠0/\Small (((d:Nat):Int).tdiv 8):=⟨zo,by unfold Small;rw[e1];omega⟩
 have hix:(0:Int)<=((d:Nat):Int).tdiv 8/\((d:Nat):Int).tdiv 8<(s.length:Nat):=by rw[e1];omega
 have hP:=zsk (((d:Nat):Int).tmod 8) (by rw[e2];omega) (by rw[e2];omega);have hB:(gd 0 s (((d:Nat):Int).tdiv 8).toNat).toNat<256:=UInt8.toNat_lt _
 have hsm:Small ((gd 0 s (((d:Nat):Int).tdiv 8).toNat).toNat:Int):=⟨zo,zo⟩
 have hpw:(2:Int)^(((d:Nat):Int).tmod 8).toNat=((2^(d%8):Nat):Int):=by rw[e2,yrX];norm_cast
 have hdv:((gd 0 s (((d:Nat):Int).tdiv 8).toNat).toNat:Int).tdiv ((2:Int)^(((d:Nat):Int).tmod 8).toNat)=(((gd 0 s (((d:Nat):Int).tdiv 8).toNat).toNat/2^(d%8):Nat):Int):=by
  rw[hpw,yGY zo];norm_cast
 have hle:(gd 0 s (((d:Nat):Int).tdiv 8).toNat).toNat/2^(d%8)<=(gd 0 s (((d:Nat):Int).tdiv 8).toNat).toNat:=Nat.div_le_self _ _
 have hn0:(2:Int)^(((d:Nat):Int).tmod 8).toNat≠0/\Small (((gd 0 s (((d:Nat):Int).tdiv 8).toNat).toNat:Int).tdiv ((2:Int)^(((d:Nat):Int).tmod 8).toNat)):=by
  constructor
  ·rw[hpw];have:=Nat.two_pow_pos (d%8);omega
  ·rw[hdv];generalize (gd 0 s (((d:Nat):Int).tdiv 8).toNat).toNat/2^(d%8)=q at hle⊢;exact⟨zo,zo⟩
 have h2:(2:Int)≠0:=by decide
 have hres:(((gd 0 s (((d:Nat):Int).tdiv 8).toNat).toNat:Int).tdiv ((2:Int)^(((d:Nat):Int).tmod 8).toNat)).tmod 2=((zc6 s d:Nat):Int):=by
  rw[hdv,ymY (Int.natCast_nonneg _),e1,yrX];unfold zc6
  show _=(((gd 0 s (d/8)).toNat/2^(d%8)%2:Nat):Int)
  generalize (gd 0 s (d/8)).toNat/2^(d%8)=q;omega
 refine ytX zal rfl ?_
 (conv=>whnf);repeat(first|refine Ex.g ?_|refine yxX (hP) ?_);conv=>whnf
 refine .z [] ?_;rw[←hres];exact ydX rfl
theorem zoS (c:Int) (h:64<=c/\c<=512):PureC Tryz.prog 137 [ib c] (ib 0):=by
 have hw:=za5 c 0 4096
 have hwi:wi c 0 4096=true:=by unfold wi;simp only[ykX,yDX];omega
 rw[hwi] at hw;refine ytX zal rfl ?_
 (conv=>whnf);repeat(first|refine Ex.g ?_|refine yaX (hw) ?_);conv=>whnf
 refine .z [] ?_;exact ydX rfl
theorem zqN (s:List UInt8) (c:Int) (hs:s.length<=100000) (h:64<=c/\c<=512):PureC Tryz.prog 95 [tb s,ib c] (ib (zbs s c)):=by
 have hwi:wi c 0 4096=true:=by unfold wi;simp only[ykX,yDX];omega
 have hS:=zoS c h;have hC:=zuG c zo;unfold zbs;rw[ygX hwi];refine ytX zal rfl ?_;by_cases hl:s.length=((c+7)/8).toNat
 ·rw[ygX hl]
  obtain⟨n,rfl⟩:∃n:Nat,c=n:=⟨c.toNat,zo⟩
  have hlast:(s.getLast?.getD 0)=gd 0 s (s.length-1):=zq2 s;rw[hlast]
  have hbit:∀d,n<=d->d<8*s.length->zc6 s d=(gd 0 s (s.length-1)).toNat/2^(d%8)%2:=λd h1 h2=>by
   unfold zc6;rw[show d/8=s.length-1 by omega];rfl
  (conv=>whnf);repeat(first|refine Ex.g ?_|refine yaX (hS) ?_|refine yaX (hC) ?_|refine Ex.om ?_);conv=>whnf
  refine yFX zal (D:=Nat) (λd=>8*s.length-d) (λd=>n<=d/\d<=8*s.length/\∀j,n<=j->j<d->zc6 s j=0) (λd=>zag [(0,tb s),(1,ib (n:Nat)),(4,ib 0),(6,ib d)] 29) (λd=>zan []) n ⟨yhX _,zo,λj h1 h2=>zo⟩ ?_ ?_
  ·exact Ex.wO [] []
  rintro d ⟨hd1,hd,hI⟩;by_cases hlt:d<8*s.length
  ·have hB:=zqO s d hs hlt;by_cases hz:zc6 s d=0
   ·have hz2:((zc6 s d:Nat):Int)=0:=zo
    (conv=>whnf);repeat(first|refine Ex.g ?_|refine yaX (hB) ?_|refine KIf.f (yqX Bool.not (ybX hz2)) ?_|refine Ex.om ?_);conv=>whnf
    refine⟨d+1,⟨zo,zo,λj h1 h2=> ?_⟩,by dsimp only;omega,?_⟩
    ·by_cases e:j=d
     ·rw[e];exact hz
     ·exact hI j h1 zo
    ·exact Ex.wO [] []
   ·have hz2:¬((zc6 s d:Nat):Int)=0:=zo
    have hne:¬(((n:Nat):Int)%8=0∨(gd 0 s (s.length-1)).toNat/2^(((n:Nat):Int)%8).toNat=0):=λc=>by
     rw[hbit d hd1 hlt] at hz
     rcases c with c|c
     ·omega
     ·have e:(((n:Nat):Int)%8).toNat=n%8:=zo;rw[e] at c;refine hz ?_;have hle:2^(n%8)<=2^(d%8):=Nat.pow_le_pow_right zo zo;have:=Nat.div_le_div_left (a:=(gd 0 s (s.length-1)).toNat) hle (Nat.two_pow_pos _);rw[c] at this;rw[Nat.le_zero.1 this]
    rw[yfX hne]
    (conv=>whnf);repeat(first|refine Ex.g ?_|refine yaX (hB) ?_|refine KIf.t (yqX Bool.not (ycX hz2)) ?_|refine Ex.om ?_);conv=>whnf
    refine .z [] ?_;exact ydX rfl
  ·have hok:((n:Nat):Int)%8=0∨(gd 0 s (s.length-1)).toNat/2^(((n:Nat):Int)%8).toNat=0:=by
    by_cases h8:((n:Nat):Int)%8=0
    ·exact .inl h8
    ·refine .inr ?_;rw[show(((n:Nat):Int)%8).toNat=n%8 by omega];refine zrZ _ _ zo λk hk1 hk2=> ?_;have hj:=hI (8*(s.length-1)+k) zo zo;rw[hbit _ zo zo,show(8*(s.length-1)+k)%8=k by omega] at hj;exact hj
   rw[ygX hok]
   (conv=>whnf);repeat(first|refine Ex.g ?_|refine Ex.om ?_);conv=>whnf
   refine .z [] ?_;exact ydX rfl
 ·rw[yfX hl]
  (conv=>whnf);repeat(first|refine Ex.g ?_|refine yaX (hS) ?_|refine yaX (hC) ?_|refine Ex.om ?_);conv=>whnf
  refine .z [] ?_;exact ydX rfl
theorem zla (v:Pt) (hc:64<=v.c/\v.c<=512) (h1:v.al.length<=100000) (h3:v.ds.length<=100000) (h4:v.mp.length<=100000):PureC Tryz.prog 50 [zbF v] (ib (Ck.first [goE (λi=>zb1 v.c (at_ Run.o v.al i)) v.al.length,goE (zbq v.ds) v.ds.length,if v.ds.length=0 then 17 else 0,zbs v.mp v.c])):=by
 have hM:=zqN v.mp v.c h4 hc;refine ytX zal rfl ?_
 conv=>whnf
 refine yFX zal (D:=Nat) (λd=>v.al.length-d) (λd=>d<=v.al.length/\∀j,j<d->zb1 v.c (at_ Run.o v.al j)=0) (λd=>zag [(1, .ptr 0 0),(2,ib 0),(3,ib d)] 81) (λd=>zan [.row (aPt v) 26 0]) 0 ⟨ymX _,λj hj=>absurd hj (ypX _)⟩ ?_ ?_
 ·exact Ex.wO [0] []
 rintro d ⟨hd,hI⟩;by_cases hlt:d<v.al.length
 ·have hW1:=za5 (at_ Run.o v.al d).s 0 (v.c-1);have hW2:=za5 (at_ Run.o v.al d).l 1 (v.c-(at_ Run.o v.al d).s)
  have hbad:zb1 v.c (at_ Run.o v.al d)=2->Ck.first [goE (λi=>zb1 v.c (at_ Run.o v.al i)) v.al.length,goE (zbq v.ds) v.ds.length,if v.ds.length=0 then 17 else 0,zbs v.mp v.c]=2:=λhe=>by
   rw[zco (E:=λi=>zb1 v.c (at_ Run.o v.al i)) hI hlt (by rw[he];decide),he,zaU (by decide)]
  obtain⟨p,hp⟩:∃p,wi (at_ Run.o v.al d).s 0 (v.c-1)=p:=⟨_,rfl⟩
  rw[hp] at hW1;cases p
  ·rw[hbad (by unfold zb1;rw[hp];rfl)]
   (conv=>whnf);repeat(first|refine Ex.g ?_|refine yxX (hW1) ?_|refine Ex.om ?_);conv=>whnf
   refine .z [] ?_;exact ydX rfl
  ·have hs:0<=(at_ Run.o v.al d).s/\(at_ Run.o v.al d).s<=v.c-1:=by unfold wi at hp;simpa using hp
   obtain⟨q,hq⟩:∃q,wi (at_ Run.o v.al d).l 1 (v.c-(at_ Run.o v.al d).s)=q:=⟨_,rfl⟩
   rw[hq] at hW2;cases q
   ·rw[hbad (by unfold zb1;rw[hp,hq];rfl)]
    (conv=>whnf);repeat(first|refine Ex.g ?_|refine yxX (hW1) ?_|refine yxX (hW2) ?_|refine Ex.om ?_);conv=>whnf
    refine .z [] ?_;exact ydX rfl
   ·have he:zb1 v.c (at_ Run.o v.al d)=0:=by unfold zb1;rw[hp,hq];rfl
    (conv=>whnf);repeat(first|refine Ex.g ?_|refine yxX (hW1) ?_|refine yxX (hW2) ?_|refine Ex.om ?_);conv=>whnf
    refine⟨d+1,⟨hlt,λj hj=> ?_⟩,by dsimp only;omega,?_⟩
    ·by_cases e:j=d
     ·rw[e];exact he
     ·exact hI j zo
    ·exact Ex.wO [0] []
 have ha0:goE (λi=>zb1 v.c (at_ Run.o v.al i)) v.al.length=0:=zcp λk hk=>hI k zo;rw[ha0,zaM]
 (conv=>whnf);repeat((refine Ex.om ?_;conv=>whnf))
 refine yFX zal (D:=Nat) (λd=>v.ds.length-d) (λd=>d<=v.ds.length/\∀j,j<d->zbq v.ds j=0) (λd=>zag [(1, .ptr 0 0),(2,ib 0),(4,ib d)] 81) (λd=>zan [.row (aPt v) 26 0]) 0 ⟨ymX _,λj hj=>absurd hj (ypX _)⟩ ?_ ?_
 ·exact Ex.wO [0] []
 clear hI hd;rintro d ⟨hd,hI⟩;by_cases hlt:d<v.ds.length
 ·have hW1:=za5 (at_ 0 v.ds d) 1 2147483647
  have hbad:∀e,zbq v.ds d=e->e≠0->Ck.first [goE (zbq v.ds) v.ds.length,if v.ds.length=0 then 17 else 0,zbs v.mp v.c]=e:=λe he1 he=>by
   rw[←he1] at he⊢;rw[zco hI hlt he,zaU he]
  obtain⟨p,hp⟩:∃p,wi (at_ 0 v.ds d) 1 2147483647=p:=⟨_,rfl⟩
  rw[hp] at hW1;cases p
  ·rw[hbad 2 (by unfold zbq;rw[hp];rfl) (by decide)]
   (conv=>whnf);repeat(first|refine Ex.g ?_|refine yaX (hW1) ?_|refine Ex.om ?_);conv=>whnf
   refine .z [] ?_;exact ydX rfl
  ·have next:zbq v.ds d=0->d+1<=v.ds.length/\∀j,j<d+1->zbq v.ds j=0:=λhe=>⟨hlt,λj hj=>by
    by_cases e:j=d
    ·rw[e];exact he
    ·exact hI j zo⟩
   cases d with
   |zero=>
    have he:zbq v.ds 0=0:=by unfold zbq;rw[hp,ygX rfl,yfX zo]
    (conv=>whnf);repeat(first|refine Ex.g ?_|refine yaX (hW1) ?_|refine Ex.om ?_);conv=>whnf
    refine⟨0+1,next he,by dsimp only;omega,?_⟩;exact Ex.wO [0] []
   |succ d=>
    have hj:(((d+1:Nat):Int)-1).toNat=d:=zo;have hix:0<=((d+1:Nat):Int)-1/\((d+1:Nat):Int)-1<v.ds.length:=zo;by_cases hle:at_ 0 v.ds (d+1)<=at_ 0 v.ds d
    ·have hle':at_ 0 v.ds (d+1)<=at_ 0 v.ds (((d+1:Nat):Int)-1).toNat:=by rw[hj];exact hle
     rw[hbad 9 (by unfold zbq;rw[hp,ygX rfl,ygX ⟨zo,hle⟩]) (by decide)]
     (conv=>whnf);repeat(first|refine Ex.g ?_|refine yaX (hW1) ?_|refine Ex.om ?_);conv=>whnf
     refine .z [] ?_;exact ydX rfl
    ·have he:zbq v.ds (d+1)=0:=by unfold zbq;rw[hp,ygX rfl,yfX (λc=>hle c.2)]
     have hle':¬at_ 0 v.ds (d+1)<=at_ 0 v.ds (((d+1:Nat):Int)-1).toNat:=by rw[hj];exact hle
     (conv=>whnf);repeat(first|refine Ex.g ?_|refine yaX (hW1) ?_|refine Ex.om ?_);conv=>whnf
     refine⟨d+1+1,next he,by dsimp only;omega,?_⟩;exact Ex.wO [0] []
 have hd0:goE (zbq v.ds) v.ds.length=0:=zcp λk hk=>hI k zo;rw[hd0,zaM];by_cases hz:v.ds.length=0
 ·rw[ygX hz,zaU (by decide)]
  (conv=>whnf);repeat((refine Ex.om ?_;conv=>whnf))
  refine .z [] ?_;exact ydX rfl
 ·have hf:Ck.first [0,zbs v.mp v.c]=zbs v.mp v.c:=by
   rw[zaM];show(if zbs v.mp v.c=0 then 0 else zbs v.mp v.c)=_;split
   ·rename_i e;exact e.symm
   ·rfl
  rw[yfX hz,hf]
  (conv=>whnf);repeat(first|refine yaX (hM) ?_|refine Ex.om ?_);conv=>whnf
  refine .z [] ?_;exact ydX rfl
theorem zjH (v:Pt) (h:FitP v):PureC Tryz.prog 14 [zbF v] (.tup [ib (Ck.zhw v),ib (Ck.zbH v)]):=by
 have hW:=za5 v.c 64 512;have hfr:=h.f.rs
 have hwt:∀{e:Int},zbG v=e->e≠0->zhw v=0/\zbH v=e:=λ{e} h1 h2=>by
  unfold zhw zbH;rw[h1,ygX h2,zaU h2];exact⟨rfl,rfl⟩
 have hw:zbG v=Ck.first [if wi v.c 64 512 then 0 else 2,if 24<v.al.length∨96<v.rs.length∨64<v.ds.length then 8 else 0,goE (λi=>zb1 v.c (at_ Run.o v.al i)) v.al.length,goE (zbq v.ds) v.ds.length,if v.ds.length=0 then 17 else 0,zbs v.mp v.c]:=rfl
 obtain⟨a,ha⟩:∃a,wi v.c 64 512=a:=⟨_,rfl⟩
 rw[ha] at hW hw;refine ytX zal rfl ?_;cases a
 ·obtain⟨q1,q2⟩:=hwt (e:=2) hw (by decide);rw[q1,q2]
  (conv=>whnf);repeat(first|refine Ex.g ?_|refine yaX (hW) ?_);conv=>whnf
  refine .z [] ?_;unfold Wz;exact Wzc (ydX rfl) (Wzc (ydX rfl) Wzn)
 have hc:64<=v.c/\v.c<=512:=by unfold wi at ha;simpa using ha
 by_cases h8:24<v.al.length∨96<v.rs.length∨64<v.ds.length
 ·obtain⟨q1,q2⟩:=hwt (e:=8) (by rw[hw,ygX h8];rfl) (by decide);rw[q1,q2];by_cases n8:24<v.al.length
  ·(conv=>whnf);repeat(first|refine Ex.g ?_|refine yaX (hW) ?_|refine Ex.om ?_);conv=>whnf
   refine .z [] ?_;unfold Wz;exact Wzc (ydX rfl) (Wzc (ydX rfl) Wzn)
  by_cases s8:96<v.rs.length
  ·(conv=>whnf);repeat(first|refine Ex.g ?_|refine yaX (hW) ?_|refine Ex.om ?_);conv=>whnf
   refine .z [] ?_;unfold Wz;exact Wzc (ydX rfl) (Wzc (ydX rfl) Wzn)
  (conv=>whnf);repeat(first|refine Ex.g ?_|refine yaX (hW) ?_|refine Ex.om ?_);conv=>whnf
  refine .z [] ?_;unfold Wz;exact Wzc (ydX rfl) (Wzc (ydX rfl) Wzn)
 have hA:=zla v hc h.f.al h.f.ds h.mp;rw[yfX h8] at hw;have hw:zbG v=Ck.first [goE (λi=>zb1 v.c (at_ Run.o v.al i)) v.al.length,goE (zbq v.ds) v.ds.length,if v.ds.length=0 then 17 else 0,zbs v.mp v.c]:=hw;rw[←hw] at hA;by_cases hw0:zbG v=0
 ·have hp1:zbH v=Ck.first [za9 v,zhl v]:=by unfold zbH;rw[hw0,zaM]
  have hp2:zhw v=if za9 v≠0 then 5 else goI (λi=>zbx i (at_ Rc.o v.rs i)) v.rs.length:=by unfold zhw;rw[yfX (λc=>c hw0)]
  rw[hp1,hp2];by_cases h5:v.rs.length<=5
  ·have hre:za9 v=6:=by unfold za9;rw[ygX (.inl h5)]
   rw[hre,ygX (by decide),zaU (by decide)]
   (conv=>whnf);repeat(first|refine Ex.g ?_|refine yaX (hW) ?_|refine yaX (hA) ?_|refine KIf.f (yqX Bool.not (ybX hw0)) ?_|refine Ex.om ?_);conv=>whnf
   refine .z [] ?_;unfold Wz;exact Wzc (ydX rfl) (Wzc (ydX rfl) Wzn)
  ·have hix:(0:Int)<=5/\(5:Int)<v.rs.length:=zo;cases hu:(at_ Rc.o v.rs 5).u
   ·have hre:za9 v=6:=by unfold za9;rw[ygX (.inr (.inl hu))]
    rw[hre,ygX (by decide),zaU (by decide)]
    (conv=>whnf);repeat(first|refine Ex.g ?_|refine yaX (hW) ?_|refine yaX (hA) ?_|refine KIf.f (yqX Bool.not (ybX hw0)) ?_|refine Ex.om ?_);conv=>whnf
    refine .z [] ?_;unfold Wz;exact Wzc (ydX rfl) (Wzc (ydX rfl) Wzn)
   ·by_cases hk:(at_ Rc.o v.rs 5).k=0
    ·have hre:za9 v=0:=by unfold za9;rw[yfX (λc=>c.elim h5 λc=>c.elim (λc=>by rw[hu] at c;cases c) λc=>c hk)]
     rw[hre,yfX (λc=>c rfl),zaM];unfold zhl
     have hR:∀d,d<v.rs.length->PureC Tryz.prog 51 [zpy (at_ Rc.o v.rs d),ib (d:Nat)] (ib (zbx d (at_ Rc.o v.rs d))):=λd hd=>by
      have hm:=at_mem Rc.o v.rs d hd;exact zk5 d _ (h.f.ns _ hm) (h.f.ss _ hm) (h.f.es _ hm) (h.f.rr _ hm) (h.nl _ hm) (h.el _ hm)
     (conv=>whnf);repeat(first|refine Ex.g ?_|refine yaX (hW) ?_|refine yaX (hA) ?_|refine KIf.f (yqX Bool.not (ybX hw0)) ?_|refine KIf.f (yqX Bool.not (ybX hk)) ?_|refine Ex.om ?_);conv=>whnf
     refine yFX zal (D:=Nat) (λd=>v.rs.length-d) (λd=>d<=v.rs.length/\∀j,j<d->zbx j (at_ Rc.o v.rs j)=0) (λd=>zag [(1, .ptr 0 0),(2,ib 0),(3,ib 0),(5,ib d)] 70) (λd=>zan [.row (aPt v) 26 0]) 0 ⟨ymX _,λj hj=>absurd hj (ypX _)⟩ ?_ ?_
     ·exact Ex.wO [0] []
     rintro d ⟨hd,hI⟩;by_cases hlt:d<v.rs.length
     ·have hE:=hR d hlt;by_cases he:zbx d (at_ Rc.o v.rs d)=0
      ·(conv=>whnf);repeat(first|refine Ex.g ?_|refine yaX (hE) ?_|refine KIf.f (yqX Bool.not (ybX he)) ?_|refine Ex.om ?_);conv=>whnf
       refine⟨d+1,⟨hlt,λj hj=> ?_⟩,by dsimp only;omega,?_⟩
       ·by_cases e:j=d
        ·rw[e];exact he
        ·exact hI j zo
       ·exact Ex.wO [0] []
      ·rw[zco (E:=λi=>zbx i (at_ Rc.o v.rs i)) hI hlt he,zj4 (λi=>zbx i (at_ Rc.o v.rs i)) (zfz _ d hI) he _ hlt,zaU he]
       (conv=>whnf);repeat(first|refine Ex.g ?_|refine yaX (hE) ?_|refine KIf.t (yqX Bool.not (ycX he)) ?_|refine Ex.om ?_);conv=>whnf
       refine .z [] ?_;unfold Wz;exact Wzc (ydX rfl) (Wzc (ydX rfl) Wzn)
     ·have h0:goE (λi=>zbx i (at_ Rc.o v.rs i)) v.rs.length=0:=zcp λk hk=>hI k zo;rw[zn0 _ _ h0,h0]
      (conv=>whnf);repeat((refine Ex.om ?_;conv=>whnf))
      refine .z [] ?_;unfold Wz;exact Wzc (ydX rfl) (Wzc (ydX rfl) Wzn)
    ·have hre:za9 v=6:=by unfold za9;rw[ygX (.inr (.inr hk))]
     rw[hre,ygX (by decide),zaU (by decide)]
     (conv=>whnf);repeat(first|refine Ex.g ?_|refine yaX (hW) ?_|refine yaX (hA) ?_|refine KIf.f (yqX Bool.not (ybX hw0)) ?_|refine KIf.t (yqX Bool.not (ycX hk)) ?_|refine Ex.om ?_);conv=>whnf
     refine .z [] ?_;unfold Wz;exact Wzc (ydX rfl) (Wzc (ydX rfl) Wzn)
 ·obtain⟨q1,q2⟩:=hwt rfl hw0;rw[q1,q2]
  (conv=>whnf);repeat(first|refine Ex.g ?_|refine yaX (hW) ?_|refine yaX (hA) ?_|refine KIf.t (yqX Bool.not (ycX hw0)) ?_|refine Ex.om ?_);conv=>whnf
  refine .z [] ?_;unfold Wz;exact Wzc (ydX rfl) (Wzc (ydX rfl) Wzn)
end Go.Proofs.YtgcjejajljhnaaaGreatDoor
namespace Ck
theorem zkd {v:Pt} {i:Nat} (hi:i<v.rs.length) (h:zfh (at_ Rc.o v.rs i)=false):zii v=false:=by
 unfold zii;rw[yLZ];right;rw[List.all_eq_false];exact⟨_,at_mem Rc.o v.rs i hi,by rw[h];decide⟩
theorem zvO {v:Pt} (h1:v.al.length<=30/\v.rs.length<=99/\v.ds.length<=70/\v.mp.length<=600) (h:∀i,i<v.rs.length->zfh (at_ Rc.o v.rs i)=true):zii v=true:=by
 unfold zii;obtain⟨a,b,c,d⟩:=h1;rw[ybX a,ybX b,ybX c,ybX d,y3X,y3X,y3X,y3X,yNY];intro x hx;obtain⟨i,hi,rfl⟩:=yTX hx;have:=h i hi
 rwa [zaS _ _ _ hi] at this
theorem zsb {α:Type} {o:α} {l:List α} {p:α->Bool} (h:∀i,i<l.length->p (at_ o l i)=true):l.all p=true:=by
 rw[yNY];intro x hx;obtain⟨i,hi,rfl⟩:=yTX hx;have:=h i hi
 rwa [zaS _ _ _ hi] at this
theorem zsa {α:Type} {o:α} {l:List α} {p:α->Bool} {i:Nat} (hi:i<l.length) (h:p (at_ o l i)=false):l.all p=false:=by
 rw[List.all_eq_false];exact⟨_,at_mem o l i hi,by rw[h];decide⟩
theorem znx {x:Rc} (h:x.ns.length<=10/\x.ss.length<=10/\x.es.length<=60):zfh x=(x.ns.all zfr&&(x.es.all zfB&&x.ss.all ze6)):=by
 unfold zfh;rw[ybX h.1,ybX h.2.1,ybX h.2.2];rfl
end Ck
namespace Go.Proofs.YtgcjejajljhnaaaGreatDoor
open Go.Ex Ck
set_option maxRecDepth 100000
set_option maxHeartbeats 8000000
theorem zxa (v:Pt):PureC Tryz.prog 11 [zbF v] (bb (zii v)):=by
 refine ytX zal rfl ?_;by_cases h0:30<v.al.length∨99<v.rs.length∨70<v.ds.length∨600<v.mp.length
 ·have hf:zii v=false:=by
   cases e:zii v
   ·rfl
   ·unfold zii at e;simp only[ykX,yDX] at e;omega
  rw[hf];by_cases n1:30<v.al.length
  ·(conv=>whnf);repeat(first|refine Ex.g ?_|refine Ex.om ?_);conv=>whnf
   refine .z [] ?_;exact ydX rfl
  by_cases n2:99<v.rs.length
  ·(conv=>whnf);repeat(first|refine Ex.g ?_|refine Ex.om ?_);conv=>whnf
   refine .z [] ?_;exact ydX rfl
  by_cases n3:70<v.ds.length
  ·(conv=>whnf);repeat(first|refine Ex.g ?_|refine Ex.om ?_);conv=>whnf
   refine .z [] ?_;exact ydX rfl
  (conv=>whnf);repeat((refine Ex.om ?_;conv=>whnf))
  refine .z [] ?_;exact ydX rfl
 (conv=>whnf);repeat((refine Ex.om ?_;conv=>whnf))
 refine yFX zal (D:=Nat) (λi=>v.rs.length-i) (λi=>i<=v.rs.length/\∀j,j<i->zfh (at_ Rc.o v.rs j)=true) (λi=>zag [(1, .ptr 0 0),(2,bb false),(3,ib i)] 103) (λi=>zan [.row (aPt v) 26 0]) 0 ⟨ymX _,λj hj=>absurd hj (ypX _)⟩ ?_ ?_
 ·exact Ex.wO [0] []
 rintro i ⟨hi,hJ⟩;by_cases hlt:i<v.rs.length
 ·by_cases hbad:10<(at_ Rc.o v.rs i).ns.length∨10<(at_ Rc.o v.rs i).ss.length∨60<(at_ Rc.o v.rs i).es.length
  ·have hf:zii v=false:=zkd hlt (by
    cases e:zfh (at_ Rc.o v.rs i)
    ·rfl
    ·unfold zfh at e;simp only[ykX,yDX] at e
     omega)
   rw[hf]
   by_cases n1:(10:Int)<(((at_ Rc.o v.rs i).ns.length:Nat):Int)
   ·(conv=>whnf);repeat(first|refine Ex.g ?_|refine Ex.om ?_);conv=>whnf
    refine .z [] ?_;exact ydX rfl
   by_cases n2:(10:Int)<(((at_ Rc.o v.rs i).ss.length:Nat):Int)
   ·(conv=>whnf);repeat(first|refine Ex.g ?_|refine Ex.om ?_);conv=>whnf
    refine .z [] ?_;exact ydX rfl
   have n3:(60:Int)<(((at_ Rc.o v.rs i).es.length:Nat):Int):=zo
   (conv=>whnf);repeat(first|refine Ex.g ?_|refine Ex.om ?_);conv=>whnf
   refine .z [] ?_;exact ydX rfl
  have hlen:(at_ Rc.o v.rs i).ns.length<=10/\(at_ Rc.o v.rs i).ss.length<=10/\(at_ Rc.o v.rs i).es.length<=60:=zo;have n1:¬(10:Int)<(((at_ Rc.o v.rs i).ns.length:Nat):Int):=zo;have n2:¬(10:Int)<(((at_ Rc.o v.rs i).ss.length:Nat):Int):=zo;have n3:¬(60:Int)<(((at_ Rc.o v.rs i).es.length:Nat):Int):=zo
  (conv=>whnf);repeat(first|refine Ex.g ?_|refine Ex.om ?_);conv=>whnf
  refine yFX zal (D:=Nat) (λd=>(at_ Rc.o v.rs i).ns.length-d) (λd=>d<=(at_ Rc.o v.rs i).ns.length/\∀j,j<d->zfr (at_ Nm.o (at_ Rc.o v.rs i).ns j)=true) (λd=>zag [(1, .ptr 0 0),(2,bb false),(3,ib i),(4, .ptr 1 0),(5,ib d)] 103) (λd=>zan [.row (aPt v) 26 0, .row (aRc (at_ Rc.o v.rs i)) 66 0]) 0 ⟨ymX _,λj hj=>absurd hj (ypX _)⟩ ?_ ?_
  ·exact Ex.wO [0,1] []
  rintro d ⟨hd,hI⟩;by_cases hdl:d<(at_ Rc.o v.rs i).ns.length
  ·have hdl2:((d:Nat):Int)<(((at_ Rc.o v.rs i).ns.length:Nat):Int):=zo;by_cases hc:40<(at_ Nm.o (at_ Rc.o v.rs i).ns d).n.length
   ·have hb:zfr (at_ Nm.o (at_ Rc.o v.rs i).ns d)=false:=by unfold zfr;exact ycX zo
    have hf:zii v=false:=zkd hlt (by rw[znx hlen,zsa (o:=Nm.o) hdl hb];rfl);rw[hf];have hc2:(40:Int)<(((at_ Nm.o (at_ Rc.o v.rs i).ns d).n.length:Nat):Int):=zo
    (conv=>whnf);repeat((refine Ex.g ?_;conv=>whnf))
    refine .z [] ?_;exact ydX rfl
   ·have hb:zfr (at_ Nm.o (at_ Rc.o v.rs i).ns d)=true:=by unfold zfr;exact ybX zo
    have hc2:¬(40:Int)<(((at_ Nm.o (at_ Rc.o v.rs i).ns d).n.length:Nat):Int):=zo
    (conv=>whnf);repeat((refine Ex.g ?_;conv=>whnf))
    refine⟨d+1,⟨hdl,λj hj=> ?_⟩,by dsimp only;omega,?_⟩
    ·by_cases e:j=d
     ·rw[e];exact hb
     ·exact hI j zo
    ·exact Ex.wO [0,1] []
  have hdl2:¬((d:Nat):Int)<(((at_ Rc.o v.rs i).ns.length:Nat):Int):=zo;have ha_ns:(at_ Rc.o v.rs i).ns.all zfr=true:=zsb (o:=Nm.o) λj hj=>hI j zo
  (conv=>whnf);repeat((refine Ex.g ?_;conv=>whnf))
  refine yFX zal (D:=Nat) (λd=>(at_ Rc.o v.rs i).es.length-d) (λd=>d<=(at_ Rc.o v.rs i).es.length/\∀j,j<d->zfB (at_ En.o (at_ Rc.o v.rs i).es j)=true) (λd=>zag [(1, .ptr 0 0),(2,bb false),(3,ib i),(4, .ptr 1 0),(6,ib d)] 103) (λd=>zan [.row (aPt v) 26 0, .row (aRc (at_ Rc.o v.rs i)) 66 0]) 0 ⟨ymX _,λj hj=>absurd hj (ypX _)⟩ ?_ ?_
  ·exact Ex.wO [0,1] []
  rintro d ⟨hd,hI⟩;by_cases hdl:d<(at_ Rc.o v.rs i).es.length
  ·have hdl2:((d:Nat):Int)<(((at_ Rc.o v.rs i).es.length:Nat):Int):=zo;by_cases hc:40<(at_ En.o (at_ Rc.o v.rs i).es d).n.length
   ·have hb:zfB (at_ En.o (at_ Rc.o v.rs i).es d)=false:=by unfold zfB;exact ycX zo
    have hf:zii v=false:=zkd hlt (by rw[znx hlen,ha_ns,zsa (o:=En.o) hdl hb];rfl);rw[hf];have hc2:(40:Int)<(((at_ En.o (at_ Rc.o v.rs i).es d).n.length:Nat):Int):=zo
    (conv=>whnf);repeat((refine Ex.g ?_;conv=>whnf))
    refine .z [] ?_;exact ydX rfl
   ·have hb:zfB (at_ En.o (at_ Rc.o v.rs i).es d)=true:=by unfold zfB;exact ybX zo
    have hc2:¬(40:Int)<(((at_ En.o (at_ Rc.o v.rs i).es d).n.length:Nat):Int):=zo
    (conv=>whnf);repeat((refine Ex.g ?_;conv=>whnf))
    refine⟨d+1,⟨hdl,λj hj=> ?_⟩,by dsimp only;omega,?_⟩
    ·by_cases e:j=d
     ·rw[e];exact hb
     ·exact hI j zo
    ·exact Ex.wO [0,1] []
  have hdl2:¬((d:Nat):Int)<(((at_ Rc.o v.rs i).es.length:Nat):Int):=zo;have ha_es:(at_ Rc.o v.rs i).es.all zfB=true:=zsb (o:=En.o) λj hj=>hI j zo
  (conv=>whnf);repeat((refine Ex.g ?_;conv=>whnf))
  refine yFX zal (D:=Nat) (λd=>(at_ Rc.o v.rs i).ss.length-d) (λd=>d<=(at_ Rc.o v.rs i).ss.length/\∀j,j<d->ze6 (at_ Sm.o (at_ Rc.o v.rs i).ss j)=true) (λd=>zag [(1, .ptr 0 0),(2,bb false),(3,ib i),(4, .ptr 1 0),(7,ib d)] 103) (λd=>zan [.row (aPt v) 26 0, .row (aRc (at_ Rc.o v.rs i)) 66 0]) 0 ⟨ymX _,λj hj=>absurd hj (ypX _)⟩ ?_ ?_
  ·exact Ex.wO [0,1] []
  rintro d ⟨hd,hI⟩;by_cases hdl:d<(at_ Rc.o v.rs i).ss.length
  ·have hdl2:((d:Nat):Int)<(((at_ Rc.o v.rs i).ss.length:Nat):Int):=zo;by_cases hc:30<(at_ Sm.o (at_ Rc.o v.rs i).ss d).r.length
   ·have hb:ze6 (at_ Sm.o (at_ Rc.o v.rs i).ss d)=false:=by unfold ze6;exact ycX zo
    have hf:zii v=false:=zkd hlt (by rw[znx hlen,ha_ns,ha_es,zsa (o:=Sm.o) hdl hb];rfl);rw[hf];have hc2:(30:Int)<(((at_ Sm.o (at_ Rc.o v.rs i).ss d).r.length:Nat):Int):=zo
    (conv=>whnf);repeat((refine Ex.g ?_;conv=>whnf))
    refine .z [] ?_;exact ydX rfl
   ·have hb:ze6 (at_ Sm.o (at_ Rc.o v.rs i).ss d)=true:=by unfold ze6;exact ybX zo
    have hc2:¬(30:Int)<(((at_ Sm.o (at_ Rc.o v.rs i).ss d).r.length:Nat):Int):=zo
    (conv=>whnf);repeat((refine Ex.g ?_;conv=>whnf))
    refine⟨d+1,⟨hdl,λj hj=> ?_⟩,by dsimp only;omega,?_⟩
    ·by_cases e:j=d
     ·rw[e];exact hb
     ·exact hI j zo
    ·exact Ex.wO [0,1] []
  have hdl2:¬((d:Nat):Int)<(((at_ Rc.o v.rs i).ss.length:Nat):Int):=zo;have ha_ss:(at_ Rc.o v.rs i).ss.all ze6=true:=zsb (o:=Sm.o) λj hj=>hI j zo
  (conv=>whnf);repeat((refine Ex.g ?_;conv=>whnf))
  refine⟨i+1,⟨hlt,λj hj=> ?_⟩,by dsimp only;omega,?_⟩
  ·by_cases e:j=i
   ·rw[e,znx hlen,ha_ns,ha_es,ha_ss];rfl
   ·exact hJ j zo
  ·exact Ex.wO [0] []
 ·have hf:zii v=true:=zvO zo λj hj=>hJ j zo;rw[hf]
  (conv=>whnf);repeat((refine Ex.om ?_;conv=>whnf))
  refine .z [] ?_;exact ydX rfl
set_option maxHeartbeats 400000
theorem zyw (v:Pt):PureC Tryz.prog 11 [zbF v] (bb (zii v)):=zxa v
theorem zlX (v:Pt) (h:FitP v):PureC Tryz.prog 12 [zbF v] (.tup [ib (Ck.zhw v),ib (Ck.zbH v)]):=zkr v h
theorem zjt (v:Pt) (h:FitP v):PureC Tryz.prog 14 [zbF v] (.tup [ib (Ck.zhw v),ib (Ck.zbH v)]):=zjH v h
theorem zbN (v:Pt) (h:FitP v):PureC Tryz.prog 52 [zbF v] (ib (Ck.zbH v)):=by
 refine ytX zal rfl ?_
 (conv=>whnf);repeat((refine yaX (zlX v h) ?_;conv=>whnf))
 refine .z [] ?_;(conv=>whnf);exact⟨rfl,rfl⟩
theorem zt8 (v:Pt) (h:FitP v):PureC Tryz.prog 16 [zbF v] (ib (Ck.zbH v)):=by
 refine ytX zal rfl ?_
 (conv=>whnf);repeat((refine yaX (zjt v h) ?_;conv=>whnf))
 refine .z [] ?_;(conv=>whnf);exact⟨rfl,rfl⟩
set_option maxHeartbeats 1000000
theorem zqa (n lo hi:Int):PureC Tryz.prog 29 [ib n,ib lo,ib hi] (bb (Ck.wi n lo hi)):=by
 refine ytX zal rfl ?_
 conv=>whnf
 unfold Ck.wi;by_cases h:lo<=n
 ·refine Ex.go ?_
  (refine .z [] ?_;conv=>whnf);(repeat'(fail))<;>(try(conv=>whnf))<;>(simp[h])
 ·refine Ex.go ?_
  (refine .z [] ?_;conv=>whnf);(repeat'(fail))<;>(try(conv=>whnf))<;>(simp[h])
theorem zuF (a b:List Int) (ha:a.length<=100000) (hb:b.length<=100000):PureC Tryz.prog 27 [LS 1 aI 0 a,LS 1 aI 0 b] (bb (decide (a=b))):=by
 refine ytX zal rfl ?_
 conv=>whnf
 by_cases h:a.length=b.length
 ·(conv=>whnf);repeat((refine KIf.f (by simp[h]) ?_;conv=>whnf))
  refine yFX zal (D:=Nat) (λd=>a.length-d) (λd=>d<=a.length/\∀i,i<d->at_ 0 a i=at_ 0 b i) (λd=>zag [(0,LS 1 aI 0 a),(1,LS 1 aI 0 b),(4,bb false),(5,ib d)] 26) (λd=>zan []) 0 ⟨ymX _,λi hi=>absurd hi (ypX _)⟩ ?_ ?_
  ·exact Ex.wO [] []
  ·rintro d ⟨hd,hs⟩
   conv=>whnf
   refine yPX (λhlt=> ?_) (λhlt=> ?_)
   ·have h1:d<a.length:=zo;have h2:d<b.length:=zo;by_cases he:at_ 0 a d=at_ 0 b d
    ·skip
     (conv=>whnf);repeat(first|refine Ex.g ?_|refine KIf.f (by simp[he]) ?_);conv=>whnf
     refine⟨d+1,⟨h1,λi hi=> ?_⟩,by dsimp only;omega,?_⟩
     ·rcases yeY i d with h3|h3
      ·exact hs i h3
      ·rw[show i=d by omega];exact he
     ·exact Ex.wO [] []
    ·have hne:a≠b:=λe=>he (by rw[e])
     (conv=>whnf);repeat(first|refine Ex.g ?_|refine KIf.t (by simp[he]) ?_);conv=>whnf
     (refine .z [] ?_;conv=>whnf);(repeat'(fail))<;>(try(conv=>whnf))<;>((exact ycX hne))
   ·have hab:a=b:=(zq5 0 h.symm λi hi=>hs i zo).symm;refine Ex.go ?_
    (refine .z [] ?_;conv=>whnf);(repeat'(fail))<;>(try(conv=>whnf))<;>((exact ybX hab))
 ·have hne:a≠b:=λe=>h (by rw[e])
  (conv=>whnf);repeat((refine KIf.t (by simp;omega) ?_;conv=>whnf))
  (refine .z [] ?_;conv=>whnf);(repeat'(fail))<;>(try(conv=>whnf))<;>((exact ycX hne))
theorem zgh (a b:List Run) (ha:a.length<=100000) (hb:b.length<=100000):PureC Tryz.prog 62 [LS 2 zaP Run.o a,LS 2 zaP Run.o b] (bb (decide (a=b))):=by
 refine ytX zal rfl ?_
 conv=>whnf
 by_cases h:a.length=b.length
 ·(conv=>whnf);repeat((refine KIf.f (by simp[h]) ?_;conv=>whnf))
  refine yFX zal (D:=Nat) (λd=>a.length-d) (λd=>d<=a.length/\∀i,i<d->at_ Run.o a i=at_ Run.o b i) (λd=>zag [(0,LS 2 zaP Run.o a),(1,LS 2 zaP Run.o b),(4,bb false),(5,ib d)] 26) (λd=>zan []) 0 ⟨ymX _,λi hi=>absurd hi (ypX _)⟩ ?_ ?_
  ·exact Ex.wO [] []
  ·rintro d ⟨hd,hs⟩
   conv=>whnf
   refine yPX (λhlt=> ?_) (λhlt=> ?_)
   ·have h1:d<a.length:=zo;have h2:d<b.length:=zo;by_cases he:at_ Run.o a d=at_ Run.o b d
    ·skip
     (conv=>whnf);repeat(first|refine Ex.g ?_|refine yKY (zn9 _ _) ?_|refine KIf.f (by exact yqX Bool.not ((zwW (at_ Run.o a d) (at_ Run.o b d)).trans (ybX he))) ?_);conv=>whnf
     refine⟨d+1,⟨h1,λi hi=> ?_⟩,by dsimp only;omega,?_⟩
     ·rcases yeY i d with h3|h3
      ·exact hs i h3
      ·rw[show i=d by omega];exact he
     ·exact Ex.wO [] []
    ·have hne:a≠b:=λe=>he (by rw[e])
     (conv=>whnf);repeat(first|refine Ex.g ?_|refine yKY (zn9 _ _) ?_|refine KIf.t (by exact yqX Bool.not ((zwW (at_ Run.o a d) (at_ Run.o b d)).trans (ycX he))) ?_);conv=>whnf
     (refine .z [] ?_;conv=>whnf);(repeat'(fail))<;>(try(conv=>whnf))<;>((exact ycX hne))
   ·have hab:a=b:=(zq5 Run.o h.symm λi hi=>hs i zo).symm;refine Ex.go ?_
    (refine .z [] ?_;conv=>whnf);(repeat'(fail))<;>(try(conv=>whnf))<;>((exact ybX hab))
 ·have hne:a≠b:=λe=>h (by rw[e])
  (conv=>whnf);repeat((refine KIf.t (by simp;omega) ?_;conv=>whnf))
  (refine .z [] ?_;conv=>whnf);(repeat'(fail))<;>(try(conv=>whnf))<;>((exact ycX hne))
theorem zkx (a b:List Sm) (ha:a.length<=100000) (hb:b.length<=100000) (har:∀x∈a,x.r.length<=100000) (hbr:∀x∈b,x.r.length<=100000):PureC Tryz.prog 33 [LS 2 aSm Sm.o a,LS 2 aSm Sm.o b] (bb (decide (a=b))):=by
 refine ytX zal rfl ?_
 conv=>whnf
 by_cases h:a.length=b.length
 ·(conv=>whnf);repeat((refine KIf.f (by simp[h]) ?_;conv=>whnf))
  refine yFX zal (D:=Nat) (λd=>a.length-d) (λd=>d<=a.length/\∀i,i<d->at_ Sm.o a i=at_ Sm.o b i) (λd=>zag [(0,LS 2 aSm Sm.o a),(1,LS 2 aSm Sm.o b),(4,bb false),(5,ib d)] 42) (λd=>zan []) 0 ⟨ymX _,λi hi=>absurd hi (ypX _)⟩ ?_ ?_
  ·exact Ex.wO [] []
  ·rintro d ⟨hd,hs⟩
   conv=>whnf
   refine yPX (λhlt=> ?_) (λhlt=> ?_)
   ·have h1:d<a.length:=zo;have h2:d<b.length:=zo;have hr1:=har _ (at_mem Sm.o a d h1);have hr2:=hbr _ (at_mem Sm.o b d h2);by_cases hz:(at_ Sm.o a d).z=(at_ Sm.o b d).z
    ·by_cases hr:(at_ Sm.o a d).r=(at_ Sm.o b d).r
     ·have he:at_ Sm.o a d=at_ Sm.o b d:=by
       generalize at_ Sm.o a d=x at*
       generalize at_ Sm.o b d=y at*
       obtain⟨x1,x2⟩:=x;obtain⟨y1,y2⟩:=y;simp only at hz hr;rw[hz,hr]
      (conv=>whnf);repeat(first|refine Ex.g ?_|refine yxX (zgh _ _ hr1 hr2) ?_|refine KIf.f (yqX Bool.not (ybX hr)) ?_|refine KIf.f (yqX Bool.not (ybX hz)) ?_);conv=>whnf
      refine⟨d+1,⟨h1,λi hi=> ?_⟩,by dsimp only;omega,?_⟩
      ·rcases yeY i d with h3|h3
       ·exact hs i h3
       ·rw[show i=d by omega];exact he
      ·exact Ex.wO [] []
     ·have hne:a≠b:=λe=>hr (by rw[e])
      (conv=>whnf);repeat(first|refine Ex.g ?_|refine yxX (zgh _ _ hr1 hr2) ?_|refine KIf.t (yqX Bool.not (ycX hr)) ?_|refine KIf.f (yqX Bool.not (ybX hz)) ?_);conv=>whnf
      (refine .z [] ?_;conv=>whnf);(repeat'(fail))<;>(try(conv=>whnf))<;>((exact ycX hne))
    ·have hne:a≠b:=λe=>hz (by rw[e])
     (conv=>whnf);repeat(first|refine Ex.g ?_|refine KIf.t (yqX Bool.not (ycX hz)) ?_);conv=>whnf
     (refine .z [] ?_;conv=>whnf);(repeat'(fail))<;>(try(conv=>whnf))<;>((exact ycX hne))
   ·have hab:a=b:=(zq5 Sm.o h.symm λi hi=>hs i zo).symm;refine Ex.go ?_
    (refine .z [] ?_;conv=>whnf);(repeat'(fail))<;>(try(conv=>whnf))<;>((exact ybX hab))
 ·have hne:a≠b:=λe=>h (by rw[e])
  (conv=>whnf);repeat((refine KIf.t (by simp;omega) ?_;conv=>whnf))
  (refine .z [] ?_;conv=>whnf);(repeat'(fail))<;>(try(conv=>whnf))<;>((exact ycX hne))
end Go.Proofs.YtgcjejajljhnaaaGreatDoor

namespace Ck
open Go Go.Ex
open Go.Proofs.YtgcjejajljhnaaaGreatDoor
theorem Valid.dir5 {v:Pt} (h:Valid v):Ck.dir (at_ Rc.o v.rs 5)=true:=by
 obtain⟨_,h1,h2⟩:=h.root;unfold Ck.dir;rw[h1,h2];rfl
end Ck
namespace Go.Proofs.YtgcjejajljhnaaaGreatDoor
open Go.Ex Ck
set_option maxRecDepth 100000
set_option maxHeartbeats 4000000
def lv (b:Nat):List Int->AV
 |[]=> .sc (.slice none 0 0)
 |x::l=> .so b 0 (x::l).length 0
def lr :List Int->List AO
 |[]=>[]
 |x::l=>[.row ((x::l).map ib) 3 1]
theorem zsn :Ex.zyT Tryz.prog zlM 2000 76 [.slice none 0 0] (.slice none 0 0)=true:=by decide+kernel
theorem zkG (l:List Nm) (hl:l.length<=100000):PureC Tryz.prog 76 [LS 3 aNm Nm.o l] (LS 3 aNm Nm.o l):=by
 by_cases h0:l.length=0
 ·obtain rfl:l=[]:=yeX h0;refine mt2 zal (λs=>yvY (args:=[.slice none 0 0]) λw=>yOY zed zc2 (args:=[.slice none 0 0]) zsn w) (λa cap=> ?_)
  ·(conv=>whnf);repeat((refine Ex.g ?_;conv=>whnf))
   refine .z [0] ?_;exact yzZ rfl (by simp) rfl (yhX _) (λi hi=>absurd hi (ypX _)) rfl (λi hi=>absurd hi (ypX _))
 ·have hb:Nat.ble (0+l.length) 0=false:=by cases h:Nat.ble (0+l.length) 0 with|false=>rfl|true=>have:=ynX h;omega
  refine ytX zal rfl ?_
  (conv=>whnf);repeat(first|refine Ex.g ?_|refine Need.mk (λ_ _=>rfl) ?_|refine RK.of (zeY rfl rfl (Nat.pos_of_ne_zero h0)) ?_);conv=>whnf
  refine .z [1] ?_;exact Wz.list (λ_=>rfl) (λ_=>rfl) rfl (by simp) (ylX _) (by exact zaA aNm Nm.o l)
theorem zky (x:Rc) (h1:x.ns.length<=100000) (h2:x.es.length<=100000) (h3:x.ss.length<=100000) (h4:∀y∈x.ss,y.r.length<=100000):PureC Tryz.prog 34 [zpy x,zpy x] (bb true):=by
 have hse:decide (x.ss=x.ss)=true:=by simp
 refine ytX zal rfl ?_
 (conv=>whnf);repeat(first|refine yaX (zkx x.ss x.ss h3 h3 h4 h4) ?_|refine yKY (zaH x.b x.b) ?_|refine KIf.f (by simp) ?_);conv=>whnf
 refine Ex.wl x.ns.length (λd=>zag [(2, .ptr 0 0),(3, .ptr 1 0),(4,bb false),(5,ib d)] 109) (λd=>zan [.row (aRc x) 66 0, .row (aRc x) 66 0]) ?_ ?_
 ·exact Ex.wO [0,1] []
 ·intro d hd;refine Ex.go ?_;refine yPX (λhlt=> ?_) (λhlt=> ?_)
  ·have h5:d<x.ns.length:=zo
   (conv=>whnf);repeat(first|refine Ex.g ?_|refine yKY (zrw _ _) ?_|refine KIf.f (by simp) ?_);conv=>whnf
   refine⟨d+1,h5,by dsimp only;omega,?_⟩;exact Ex.wO [0,1] []
  ·refine Ex.go ?_;refine Ex.wl x.es.length (λd=>zag [(2, .ptr 0 0),(3, .ptr 1 0),(4,bb false),(6,ib d)] 109) (λd=>zan [.row (aRc x) 66 0, .row (aRc x) 66 0]) ?_ ?_
   ·exact Ex.wO [0,1] []
   ·intro d hd;refine Ex.go ?_;refine yPX (λhlt=> ?_) (λhlt=> ?_)
    ·have h5:d<x.es.length:=zo
     (conv=>whnf);repeat(first|refine Ex.g ?_|refine yKY (zxx _ _) ?_|refine KIf.f (by simp) ?_);conv=>whnf
     refine⟨d+1,h5,by dsimp only;omega,?_⟩;exact Ex.wO [0,1] []
    ·refine Ex.go ?_;refine .z [] ?_;exact ydX rfl
end Go.Proofs.YtgcjejajljhnaaaGreatDoor
namespace Ck
open Go Go.Ex
open Go.Proofs.YtgcjejajljhnaaaGreatDoor
theorem zcx {i:Int} {x:Rc} (h:zd4 i x=0):(1<=x.q/\x.q<=65535)/\x.ns.length<=8/\x.ss.length<=8/\x.es.length<=zdI i:=by
 unfold zd4 at h;by_cases h1:(!(wi x.q 1 65535)|| !(wi x.k 0 3)|| !(num x.ln)|| !(num x.ds))=true
 ·rw[ygX h1] at h;omega
 rw[yfX h1] at h;by_cases h2:(!x.u&&(x.b !=Ref.o||decide (0<x.ln+x.ds+x.parts+x.k)))=true
 ·rw[ygX h2] at h;omega
 rw[yfX h2] at h;by_cases h3:(if x.k=3 then zaJ x.b else if x.b=Ref.o then 0 else 2)≠0
 ·rw[ygX h3] at h;omega
 rw[yfX h3] at h;by_cases h4:8<x.ns.length∨8<x.ss.length∨zdI i<x.es.length
 ·rw[ygX h4] at h;omega
 simp only[yXY,y1X,not_or,Bool.not_eq_false] at h1;have hq:=h1.1.1.1;unfold wi at hq;simp only[ykX,yDX] at hq;exact⟨hq,zo,zo,zo⟩
theorem znM (i:Int):zdI i<=700:=by unfold zdI;split<;>omega
theorem zeO {s:Sm} (h:zcd s=0):0<=s.z/\s.z<=2147483647:=by
 unfold zcd at h;split at h
 ·omega
 ·split at h
  ·rename_i h2;simp only[ykX] at h2;have:=h2.2;unfold num wi at this;simp only[ykX,yDX] at this;exact this
  ·omega
theorem zkY {r:Ref} (h:zaJ r=0):(0<=r.r/\r.r<=95)/\1<=r.q/\r.q<=65535:=by
 unfold zaJ at h;split at h
 ·rename_i h2;unfold wi at h2;simp only[ykX,yDX] at h2;exact h2
 ·omega
theorem zbv {e:En} (h:zc5 e=0):zau e.n=0/\zaJ e.f=0/\num e.z=true:=by
 unfold zc5 at h;split at h
 ·rename_i h1;split at h
  ·rename_i h2;split at h
   ·rename_i h3;exact⟨h1,h2,h3⟩
   ·omega
  ·rename_i h2;exact absurd h h2
 ·rename_i h1;exact absurd h h1
theorem zg8 {v:Pt} (h:zbH v=0):v.ds.length≠0/\v.mp.length=((v.c+7)/8).toNat:=by
 have hw:zbG v=0:=zbP h _ (by simp);have h2:=zbP hw;have a5:=h2 (if v.ds.length=0 then 17 else 0) (by simp);have a6:=h2 (zbs v.mp v.c) (by simp);constructor
 ·intro e;rw[ygX e] at a5;omega
 ·unfold zbs at a6;split at a6
  ·split at a6
   ·rename_i h3;exact h3
   ·omega
  ·omega
theorem Ready.of {v:Pt} (hf:FitP v) (he:zbH v=0):Ready v:=by
 have hv:=Valid.of he;obtain⟨hds,hmp⟩:=zg8 he;have hc:=hv.c
 have hr:∀x∈v.rs,∃i,zd4 i x=0/\zcZ x=0/\zdg x=0:=λx hx=>by
  obtain⟨i,hi,rfl⟩:=yTX hx;have:=hv.rcs i hi;rw[zaS _ _ _ hi] at this;exact⟨i,(zc0 this).1,(zc0 this).2.2.1,(zc0 this).2.2.2⟩
 refine⟨⟨hv.root.1,hv.lens.2.1⟩,zo,⟨λr hr'=> ?_,by have:=hv.lens;omega⟩,by have:=hv.lens;omega,hmp,λx hx=> ?_,λx hx=> ?_,λx hx=> ?_,λx hx=> ?_,Valid.dir5 hv⟩
 ·have:=hv.al r hr';omega
 ·obtain⟨i,h1,_⟩:=hr x hx;exact(zcx h1).1
 ·obtain⟨i,h1,_⟩:=hr x hx;exact⟨by have:=(zcx h1).2.1;omega,λm hm=>hf.nl x hx m hm⟩
 ·obtain⟨i,h1,_,h3⟩:=hr x hx;refine⟨by have:=(zcx h1).2.2.2;have:=znM i;omega,λe he'=>⟨hf.el x hx e he',?_⟩⟩;obtain⟨k,hk,rfl⟩:=yTX he';have h4:zc5 (at_ En.o x.es k)=0:=zd5 _ _ h3 k hk;rw[zaS _ _ _ hk] at h4;exact(zkY (zbv h4).2.1).1.1
 ·obtain⟨i,h1,h2,_⟩:=hr x hx;refine⟨by have:=(zcx h1).2.2.1;omega,λy hy=> ?_⟩;obtain⟨g1,g2⟩:=zox h2 y hy
  have hz:0<=y.z/\y.z<=2147483647:=by
   obtain⟨k,hk,rfl⟩:=yTX hy;have h3:zcd (at_ Sm.o x.ss k)=0:=zd5 _ _ h2 k hk;rw[zaS _ _ _ hk] at h3;exact zeO h3
  exact⟨zo,hz.1,zo,λr hr'=>by have:=g2 r hr';unfold zm3;omega⟩
end Ck
namespace Ck
structure RecOk (i:Int) (x:Rc):Prop where
 q:1<=x.q/\x.q<=65535
 k:0<=x.k/\x.k<=3
 ln:0<=x.ln/\x.ln<=2147483647
 ds:0<=x.ds/\x.ds<=2147483647
 un:x.u=false->x.b=Ref.o/\x.ln+x.ds+x.parts+x.k<=0
 b:(if x.k=3 then zaJ x.b else if x.b=Ref.o then 0 else 2)=0
 ns8:x.ns.length<=8
 ss8:x.ss.length<=8
 esm:x.es.length<=zdI i
 es0:0<x.es.length->x.k=0
 ns0:0<x.ns.length->x.k≠3/\16<=i
 nn:∀n∈x.ns,zdc n=0
 sn:∀s∈x.ss,zcd s=0
 en:∀e∈x.es,zc5 e=0
theorem zmG {α:Type} {o:α} {f:α->Int} {l:List α} (h:goE (λi=>f (at_ o l i)) l.length=0):∀x∈l,f x=0:=λx hx=>by
 obtain⟨k,hk,rfl⟩:=yTX hx;have:=zd5 _ _ h k hk
 rwa [zaS _ _ _ hk] at this
theorem RecOk.of {i:Int} {x:Rc} (h:zbx i x=0):RecOk i x:=by
 obtain⟨hh,hn,hs,he⟩:=zc0 h;unfold zd4 at hh;by_cases h1:(!(wi x.q 1 65535)|| !(wi x.k 0 3)|| !(num x.ln)|| !(num x.ds))=true
 ·rw[ygX h1] at hh;omega
 rw[yfX h1] at hh;by_cases h2:(!x.u&&(x.b !=Ref.o||decide (0<x.ln+x.ds+x.parts+x.k)))=true
 ·rw[ygX h2] at hh;omega
 rw[yfX h2] at hh;by_cases h3:(if x.k=3 then zaJ x.b else if x.b=Ref.o then 0 else 2)≠0
 ·rw[ygX h3] at hh;omega
 rw[yfX h3] at hh;by_cases h4:8<x.ns.length∨8<x.ss.length∨zdI i<x.es.length
 ·rw[ygX h4] at hh;omega
 rw[yfX h4] at hh;by_cases h5:(0<x.es.length/\x.k≠0)∨(0<x.ns.length/\(x.k=3∨i<16))
 ·rw[ygX h5] at hh;omega
 simp only[yXY,y1X,not_or,Bool.not_eq_false] at h1;obtain⟨⟨⟨a1,a2⟩,a3⟩,a4⟩:=h1;unfold num at a3 a4;unfold wi at a1 a2 a3 a4;simp only[ykX,yDX] at a1 a2 a3 a4;refine⟨a1,a2,a3,a4,λhu=> ?_,yFZ.1 h3,zo,zo,zo,λg=> ?_,λg=> ?_,zmG hn,zmG hs,zmG he⟩
 ·rw[hu] at h2;simp only[yGZ,y3X,yXY,bne_iff_ne,ne_eq,yDX,not_or,yFZ] at h2;exact⟨h2.1,zo⟩
 ·by_cases e:x.k=0
  ·exact e
  ·exact absurd (.inl ⟨g,e⟩) h5
 ·exact⟨λe=>h5 (.inr ⟨g, .inl e⟩),by by_cases e:i<16;exact absurd (.inr ⟨g, .inr e⟩) h5;omega⟩
def Rv (p:Rp):Prop:=∀i,i<p.v.rs.length->RecOk (i:Nat) (at_ Rc.o p.v.rs i)
theorem Rv.of_v {p q:Rp} (h:Rv p) (hv:q.v.rs=p.v.rs):Rv q:=by unfold Rv at h⊢;rw[hv];exact h
theorem Rv.setR {p:Rp} (h:Rv p) (i:Nat) (x:Rc) (hx:i<p.v.rs.length->RecOk (i:Nat) x):Rv (p.setR i x):=by
 intro j hj;have hj:j<(p.v.rs.set i x).length:=hj;rw[yoX] at hj;show RecOk j (at_ Rc.o (p.v.rs.set i x) j);rw[zb0];split
 ·rename_i hij;obtain⟨rfl,h2⟩:=hij;exact hx hj
 ·exact h j hj
theorem Rv.at {p:Rp} (h:Rv p) {i:Nat} (hi:i<p.v.rs.length):RecOk (i:Nat) (at_ Rc.o p.v.rs i):=h i hi
theorem RecOk.gone (i:Int) (q:Int) (hq:1<=q):RecOk i {Rc.o with q:=q%65535+1}:=
 have z:(0:Int)<=0/\(0:Int)<=2147483647:=by decide
 have n:¬(0<([]:List Nm).length):=by decide
 {q:=(by show 1<=q%65535+1/\q%65535+1<=65535;omega)
  k:=(show(0:Int)<=0/\(0:Int)<=3 from by decide)
  ln:=z
  ds:=z
  un:=λ_=>⟨rfl,(show(0:Int)+0+((0:Nat):Int)+0<=0 from by decide)⟩
  b:=(show(if(0:Int)=3 then zaJ Ref.o else if Ref.o=Ref.o then 0 else 2)=0 from by decide)
  ns8:=ymX _
  ss8:=ymX _
  esm:=ymX _
  es0:=λh=>absurd h (show ¬(0<([]:List En).length) from by decide)
  ns0:=λh=>absurd h n
  nn:=λ_ h=>(by cases h)
  sn:=λ_ h=>(by cases h)
  en:=λ_ h=>(by cases h)}
theorem Rv.lost {p:Rp} (h:Rv p):Rv (zax p):=
 za4 (I:=λq:Rp=>Rv q) (λs k hs=>by
  unfold zar;dsimp only;split
  ·refine(hs.of_v (q:=s.note 0 k 0) rfl).setR k _ λhk=> ?_;rw[zae];exact RecOk.gone _ _ (hs.at hk).q.1
  ·exact hs) h _
theorem RecOk.desc {i:Int} {x:Rc} (h:RecOk i x) (hu:x.u=true) (d:Int) (hd:0<=d/\d<=2147483647):RecOk i {x with ds:=d}:=
 {h with ds:=hd,un:=λe=>by have e:x.u=false:=e;rw[hu] at e;cases e}
theorem RecOk.link {i:Int} {x:Rc} (h:RecOk i x) (hu:x.u=true) (d:Int) (hd:0<=d/\d<=2147483647):RecOk i {x with ln:=d}:=
 {h with ln:=hd,un:=λe=>by have e:x.u=false:=e;rw[hu] at e;cases e}
theorem RecOk.ents {i:Int} {x:Rc} (h:RecOk i x) (hd:dir x=true) (l:List En) (hl:l.length<=zdI i) (he:∀e∈l,zc5 e=0):RecOk i {x with es:=l}:=by
 unfold dir at hd;simp only[ykX,yiY] at hd;exact{h with esm:=hl,en:=he,es0:=λ_=>hd.2,un:=λe=>by have e:x.u=false:=e;rw[hd.1] at e;cases e}
theorem RecOk.names {i:Int} {x:Rc} (h:RecOk i x) (ho:own x=true) (hi:16<=i) (l:List Nm) (hl:l.length<=8) (he:∀n∈l,zdc n=0):RecOk i {x with ns:=l}:=by
 unfold own at ho;simp only[ykX,bne_iff_ne] at ho;exact{h with ns8:=hl,nn:=he,ns0:=λ_=>⟨ho.2,hi⟩,un:=λe=>by have e:x.u=false:=e;rw[ho.1] at e;cases e}
theorem zoM {x:Rc} (h:own x=true):x.u=true:=by unfold own at h;simp only[ykX] at h;exact h.1
theorem Rv.descriptors {p:Rp} (h:Rv p) (hd:0<=at_ 0 p.v.ds 0/\at_ 0 p.v.ds 0<=2147483647):Rv (descriptors p):=
 (za4 (I:=λq:Rp=>Rv q/\q.v.ds=p.v.ds) (λs k ⟨hs,hds⟩=>by
  unfold zas;dsimp only;split
  ·rename_i ho;simp only[ykX,zae] at ho;refine⟨(hs.of_v (q:=s.note 2 k 0) rfl).setR k _ λhk=> ?_,hds⟩;rw[zae,hds];exact(hs.at hk).desc (zoM ho.1) _ hd
  ·exact⟨hs,hds⟩) ⟨h,rfl⟩ _).1
theorem Rv.links {p:Rp} (h:Rv p):Rv (links p):=
 za4 (I:=λq:Rp=>Rv q) (λs k hs=>by
  split
  ·rename_i ho;unfold zb2;split
   ·refine(hs.of_v (q:=s.note 8 (16+k:Nat) 0) rfl).setR (16+k) _ λhk=> ?_;rw[zae] at ho⊢;exact(hs.at hk).link (zoM ho) _ (by have:=(hs.at hk).ns8;show 0<=((at_ Rc.o s.v.rs (16+k)).ns.length:Int)/\((at_ Rc.o s.v.rs (16+k)).ns.length:Int)<=2147483647;omega)
   ·exact hs
  ·exact hs) h _
theorem zhX {i:Nat} {es:List En} {p:Rp}:∀k,k<=es.length->(∀e∈(it (entryStep i es) (p,[]) k).2,e∈es)/\(it (entryStep i es) (p,[]) k).2.length<=k/\(it (entryStep i es) (p,[]) k).1.v=p.v
 |0,_=>⟨λ_ h=>(by cases h),yhX _,rfl⟩
 |k+1,hk=>by
  obtain⟨h1,h2,h3⟩:=zhX (i:=i) (es:=es) (p:=p) k zo;show(∀e∈(entryStep i es (it (entryStep i es) (p,[]) k) k).2,e∈es)/\(entryStep i es (it (entryStep i es) (p,[]) k) k).2.length<=k+1/\(entryStep i es (it (entryStep i es) (p,[]) k) k).1.v=p.v
  generalize it (entryStep i es) (p,[]) k=s at*
  unfold entryStep;dsimp only;split
  ·refine⟨λe he=> ?_,by simp;omega,h3⟩
   rcases yRX.1 he with he|he
   ·exact h1 e he
   ·rcases yiX.1 he with rfl;exact at_mem En.o es k zo
  ·split
   ·exact⟨h1,Nat.le_succ_of_le h2,h3⟩
   ·exact⟨h1,Nat.le_succ_of_le h2,h3⟩
theorem Rv.badEntries {p:Rp} (h:Rv p):Rv (badEntries p):=
 za4 (I:=λq:Rp=>Rv q) (λs k hs=>by
  unfold zaa;split
  ·rename_i hd;rw[zae] at hd;obtain⟨h1,h2,h3⟩:=zhX (i:=k) (es:=(s.rc k).es) (p:=s) _ (yhX _);dsimp only;refine(hs.of_v (by rw[h3])).setR k _ λhk=> ?_;rw[h3] at hk;rw[zae] at h1 h2⊢;rw[h3];exact(hs.at hk).ents hd _ (yBX h2 (hs.at hk).esm) λe he=>(hs.at hk).en e (h1 e he)
  ·exact hs) h _
theorem ziy {i:Int} {x:Rc} (h:RecOk i x):num (sizeOf x)=true:=by
 unfold sizeOf;split
 ·rename_i h1
  obtain⟨y,hy⟩:∃y,at_ Sm.o x.ss 0=y:=⟨_,rfl⟩
  have hm:y∈x.ss:=by rw[←hy];exact at_mem Sm.o x.ss 0 h1.2
  have:=zeO (h.sn y hm);rw[hy];unfold num wi;simp[this]
 ·decide
theorem zt3 {p:Rp} (h:Rv p) (h96:p.v.rs.length<=96) {r:Nat} (hr:r<p.v.rs.length):zaJ (p.ref r)=0:=by
 have hq:=(h.at hr).q;unfold zaJ Rp.ref;rw[zae]
 have h1:wi (r:Nat) 0 95=true:=by unfold wi;simp;omega
 have h2:wi (at_ Rc.o p.v.rs r).q 1 65535=true:=by unfold wi;simp[hq]
 rw[ygX (by rw[h1,h2];rfl)]
theorem zod {e:En} (h1:zau e.n=0) (h2:zaJ e.f=0) (h3:num e.z=true):zc5 e=0:=by
 unfold zc5;rw[ygX h1,ygX h2,ygX h3]
theorem zcN {n:Nm} (h:zdc n=0):zaJ n.d=0/\zau n.n=0:=by
 unfold zdc at h;split at h
 ·rename_i h1;exact⟨h1,h⟩
 ·rename_i h1;exact absurd h h1
theorem Rv.enter {p:Rp} (h:Rv p) (h96:p.v.rs.length<=96) {d:Int} {n:List UInt8} {r:Nat} (hr:r<p.v.rs.length) (hd0:0<=d) (hd:dir (p.rc d)=true) (hm:(p.rc d).es.length<zdI d) (hn:zau n=0):Rv (enter p d n r):=by
 unfold Ck.enter;have hdt:((d.toNat:Nat):Int)=d:=yWY hd0;refine h.setR d.toNat _ λhk=> ?_;have hx:p.rc d=at_ Rc.o p.v.rs d.toNat:=rfl;rw[hx] at hd hm⊢;refine(h.at hk).ents hd _ (by rw[yvX,hdt];show _+1<=zdI d;omega) λe he=> ?_
 rcases yRX.1 he with he|he
 ·exact(h.at hk).en e he
 ·rcases yiX.1 he with rfl
  exact zod hn (zt3 h h96 hr) (by show num (sizeOf (p.rc r))=true;rw[zae];exact ziy (h.at hr))
theorem Rv.drop {p:Rp} (h:Rv p) (r:Nat) (n:Nm):Rv (drop p r n):=by
 unfold Ck.drop;split
 ·rename_i hc;simp only[ykX,yiY] at hc;have hx:p.rc n.d.r=at_ Rc.o p.v.rs n.d.r.toNat:=rfl;refine h.setR n.d.r.toNat _ λhk=> ?_;rw[hx]
  have hd:dir (at_ Rc.o p.v.rs n.d.r.toNat)=true:=by
   have h1:=hc.1;unfold right at h1;simp only[ykX] at h1;have h2:=zoM h1.1.2;have h3:(at_ Rc.o p.v.rs n.d.r.toNat).k=0:=hc.2;unfold dir;have h4:(at_ Rc.o p.v.rs n.d.r.toNat).u=true:=h2;rw[h3,h4];rfl
  exact(h.at hk).ents hd _ (yBX (y2Y _ _) (h.at hk).esm) λe he=>(h.at hk).en e (yVY.1 he).1
 ·exact h
theorem zce {p:Rp} {d:Ref} (h:(right p.v d&&(p.rc d.r).k==0)=true):0<=d.r/\d.r.toNat<p.v.rs.length/\dir (p.rc d.r)=true/\p.ref d.r=d:=by
 simp only[ykX,yiY] at h;obtain⟨h1,h3⟩:=h;unfold right wi at h1;simp only[ykX,yDX,yiY] at h1;obtain⟨⟨⟨a1,a2⟩,a3⟩,a4⟩:=h1;refine⟨a1,zo,?_,?_⟩
 ·unfold dir;have:(p.rc d.r).u=true:=zoM a3;rw[this,h3];rfl
 ·unfold Rp.ref;have:(p.rc d.r).q=d.q:=a4;rw[this]
theorem zfy {p:Rp} {r:Nat} {b:List Nm} {n:Nm} (h:(isName p r b n).1=true):(right p.v n.d&&(p.rc n.d.r).k==0)=true/\(b≠[]->(p.rc r).k=1)/\b.any (λy=>decide (y.d=n.d)&&same y.n n.n)=false:=by
 unfold isName at h;split at h
 ·rename_i h1;split at h
  ·cases h
  ·rename_i h2;split at h
   ·cases h
   ·rename_i h3;refine⟨h1,λhb=>yFZ.1 λe=>h3 ⟨hb,e⟩,by simpa using h2⟩
 ·cases h
theorem zeu {p:Rp} {r:Nat} {b:List Nm} {n:Nm} (h:(isName p r b n).1=true) (h2:(isName p r b n).2=false):ixE n.n (p.rc n.d.r).es=none/\(p.rc n.d.r).es.length<zdI n.d.r:=by
 unfold isName at h h2;split at h
 ·split at h
  ·cases h
  ·split at h
   ·cases h
   ·rename_i c1 c2 c3;rw[ygX c1,yfX c2,yfX c3] at h2
    cases hx:ixE n.n (p.rc n.d.r).es with
    |none=>rw[hx] at h;exact⟨rfl,by simpa using h⟩
    |some k=>rw[hx] at h2;cases h2
 ·cases h
theorem ziK {p:Rp} {r:Nat} {b:List Nm} {n:Nm} (h:(isName p r b n).1=true) (h2:(isName p r b n).2=true):∃k,ixE n.n (p.rc n.d.r).es=some k/\(at_ En.o (p.rc n.d.r).es k).f=p.ref r/\(at_ En.o (p.rc n.d.r).es k).n=n.n:=by
 unfold isName at h h2;split at h
 ·split at h
  ·cases h
  ·split at h
   ·cases h
   ·rename_i c1 c2 c3;rw[ygX c1,yfX c2,yfX c3] at h2
    cases hx:ixE n.n (p.rc n.d.r).es with
    |none=>rw[hx] at h2;cases h2
    |some k=>rw[hx] at h;exact⟨k,rfl,by simpa using h⟩
 ·cases h
theorem Rv.badNames1 {p:Rp} (h:Rv p) (h96:p.v.rs.length<=96) {i:Nat} (hi:16<=i/\i<p.v.rs.length) (ho:own (p.rc i)=true):Rv (badNames1 p i):=by
 have hx:=zae p i;have hi2:=h.at hi.2
 have key:∀k,k<=(p.rc i).ns.length->Rv (it (nameStep i (p.rc i).ns) (p,[]) k).1/\(it (nameStep i (p.rc i).ns) (p,[]) k).2.length<=k/\(∀m∈(it (nameStep i (p.rc i).ns) (p,[]) k).2,m∈(p.rc i).ns)/\Kp p (it (nameStep i (p.rc i).ns) (p,[]) k).1:=by
  intro k
  induction k with
  |zero=>exact λ_=>⟨h,yhX _,λ_ e=>(by cases e),ybY _⟩
  |succ k ih=>
   intro hk;obtain⟨h1,h2,h3,h4⟩:=ih zo;have h5:=h4.nameStep i (p.rc i).ns (k:=k);show Rv (nameStep i (p.rc i).ns (it (nameStep i (p.rc i).ns) (p,[]) k) k).1/\(nameStep i (p.rc i).ns (it (nameStep i (p.rc i).ns) (p,[]) k) k).2.length<=k+1/\(∀m∈(nameStep i (p.rc i).ns (it (nameStep i (p.rc i).ns) (p,[]) k) k).2,m∈(p.rc i).ns)/\Kp p (nameStep i (p.rc i).ns (it (nameStep i (p.rc i).ns) (p,[]) k) k).1;refine⟨?_,?_,?_,h5⟩
   ·clear h5
    generalize it (nameStep i (p.rc i).ns) (p,[]) k=s at*
    have hm:at_ Nm.o (p.rc i).ns k∈(p.rc i).ns:=at_mem Nm.o _ k zo;have hnm:=zcN ((hx▸hi2).nn _ hm);unfold nameStep;dsimp only;split
    ·rename_i c1;split
     ·exact h1
     ·rename_i c2;obtain⟨g1,g2,g3,_⟩:=zce (zfy c1).1;obtain⟨_,g4⟩:=zeu c1 (by simpa using c2);exact(h1.of_v (q:=s.1.note 5 i s.2.length) rfl).enter (by show s.1.v.rs.length<=96;rw[h4.2.2.2];exact h96) (by show i<s.1.v.rs.length;rw[h4.2.2.2];exact hi.2) g1 g3 g4 hnm.2
    ·split
     ·exact(h1.of_v (q:=s.1.note 4 i s.2.length) rfl).drop _ _
     ·exact h1.of_v rfl
   ·generalize it (nameStep i (p.rc i).ns) (p,[]) k=s at*
    unfold nameStep;dsimp only;split
    ·simp;omega
    ·exact Nat.le_succ_of_le h2
   ·generalize it (nameStep i (p.rc i).ns) (p,[]) k=s at*
    unfold nameStep;dsimp only;split
    ·intro m he
     rcases yRX.1 he with he|he
     ·exact h3 m he
     ·rcases yiX.1 he with rfl;exact at_mem Nm.o _ k zo
    ·exact h3
 obtain⟨h1,h2,h3,h4⟩:=key _ (yhX _);unfold Ck.badNames1;dsimp only
 generalize it (nameStep i (p.rc i).ns) (p,[]) (p.rc i).ns.length=s at*
 refine h1.setR i _ λhk=> ?_
 have ho2:own (at_ Rc.o s.1.v.rs i)=true:=by
  obtain⟨_,hkd,_⟩:=h4;rw[hx] at ho;unfold own at ho⊢;rw[(hkd i).1,(hkd i).2.1];exact ho
 rw[zae]
 exact(h1.at hk).names ho2 zo _ (yBX h2 (by rw[hx];exact hi2.ns8)) λn hn=>by
  have:=h3 n hn;rw[hx] at this;exact hi2.nn n this
theorem Rv.below {f:Rp->Nat->Rp} {p:Rp} (hf:∀(q:Rp) (i:Nat),Rv q->q.v.rs.length=p.v.rs.length->16<=i/\i<q.v.rs.length->own (q.rc i)=true->Rv (f q i)) (hk:∀q i,Kp q (f q i)) (h:Rv p):Rv (below f p):=by
 have key:∀k,k<=p.v.rs.length-16->Rv (it (λq j=>if own (q.rc (16+j:Nat)) then f q (16+j) else q) p k)/\(it (λq j=>if own (q.rc (16+j:Nat)) then f q (16+j) else q) p k).v.rs.length=p.v.rs.length:=
  zbo (I:=λk q=>Rv q/\q.v.rs.length=p.v.rs.length) (λs k hk2 hs=>by
   split
   ·rename_i ho;exact⟨hf s (16+k) hs.1 hs.2 ⟨zo,by rw[hs.2];omega⟩ ho,by rw[(hk s (16+k)).2.2.2];exact hs.2⟩
   ·exact hs) ⟨h,rfl⟩
 exact(key _ (yhX _)).1
theorem Rv.badNames {p:Rp} (h:Rv p) (h96:p.v.rs.length<=96):Rv (badNames p):=
 Rv.below (λq i hq hl hi ho=>hq.badNames1 zo hi ho) Kp.badNames1 h
theorem Rv.sizes {p:Rp} (h:Rv p):Rv (sizes p):=
 za4 (I:=λq:Rp=>Rv q) (λs i hs=>by
  unfold zai;split
  ·rename_i hd;rw[zae] at hd;refine(za4 (I:=λq:Rp=>Rv q/\dir (at_ Rc.o q.v.rs i)=true) (λt k ⟨ht,hdt⟩=> ?_) ⟨hs,hd⟩ _).1;unfold zak;dsimp only;split
   ·rename_i hc;simp only[ykX] at hc;have hr:=hc.1;unfold right wi at hr;simp only[ykX,yDX] at hr;obtain⟨⟨⟨a1,a2⟩,_⟩,_⟩:=hr;have hdt2:=hdt;have hx:=zae t i;have hrr:t.rc (at_ En.o (t.rc i).es k).f.r=at_ Rc.o t.v.rs (at_ En.o (t.rc i).es k).f.r.toNat:=rfl;refine⟨(ht.of_v (q:=t.note 9 i k) rfl).setR i _ λhi=> ?_,?_⟩
    ·rw[hx] at hrr⊢;refine(ht.at hi).ents hdt _ (by rw[yoX];exact(ht.at hi).esm) λe he=> ?_
     rcases yoZ he with he|rfl
     ·exact(ht.at hi).en e he
     ·by_cases hk:k<(at_ Rc.o t.v.rs i).es.length
      ·have h0:=zbv ((ht.at hi).en _ (at_mem En.o _ k hk));refine zod h0.1 h0.2.1 ?_;show num (sizeOf (t.rc (at_ En.o (at_ Rc.o t.v.rs i).es k).f.r))=true;rw[hrr];rw[hx] at a1 a2;exact ziy (ht.at zo)
      ·rw[y8Y zo] at he;exact(ht.at hi).en _ he
    ·show dir (at_ Rc.o (t.v.rs.set i _) i)=true;rw[zb0];split
     ·unfold dir at hdt⊢;rw[hx];exact hdt
     ·exact hdt
   ·exact⟨ht,hdt⟩
  ·exact hs) h _
theorem zbl {r:Run} (h:za1 r=false):(-1<=r.s/\r.s<=2147483647)/\1<=r.l/\r.l<=512:=by
 unfold za1 wi at h;simp only[Bool.or_eq_false_iff,yeZ,ykX,yDX] at h;exact h
theorem zr4 {r:Run} (h:(-1<=r.s/\r.s<=2147483647)/\1<=r.l/\r.l<=512):za1 r=false:=by
 unfold za1 wi;simp only[Bool.or_eq_false_iff,yeZ,ykX,yDX];exact h
theorem zh0 :∀(l:List Run) (t:List Bool) (acc:List Run),(∀r∈l,za1 r=false)->(∀r∈acc,za1 r=false)->∀l',(zcy t acc l).2=some l'->l'.length<=acc.length+l.length/\∀r∈l',za1 r=false
 |[],t,acc,_,_,l',h=>by unfold zcy at h;cases h
 |r::l,t,acc,hl,ha,l',h=>by
  have hr:=hl r (yxY ..);have hl':∀r∈l,za1 r=false:=λx hx=>hl x (ycY _ hx)
  have hacc:∀x∈acc++[r],za1 x=false:=λx hx=>by
   rcases yRX.1 hx with hx|hx
   ·exact ha x hx
   ·rcases yiX.1 hx with rfl;exact hr
  unfold zcy at h;split at h
  ·have:=zh0 l t (acc++[r]) hl' hacc l' h;refine⟨?_,this.2⟩;have h1:=this.1;simp only[yvX,yGX,ySX] at h1⊢;omega
  ·split at h
   ·rename_i t' _;have:=zh0 l t' (acc++[r]) hl' hacc l' h;refine⟨?_,this.2⟩;have h1:=this.1;simp only[yvX,yGX,ySX] at h1⊢;omega
   ·rename_i t' k hk;have hkl:=(zgK t r.s r.l.toNat 0).2 k (by rw[hk]);have hrp:=zbl hr;have h:=yfZ h;subst h;split
    ·rename_i h0;refine⟨by simp,λx hx=> ?_⟩
     rcases yRX.1 hx with hx|hx
     ·exact ha x hx
     ·rcases yiX.1 hx with rfl
      exact zr4 ⟨hrp.1,by show(1:Int)<=(k:Nat)/\((k:Nat):Int)<=512;omega⟩
    ·refine⟨by simp,λx hx=> ?_⟩;rw[yKX] at hx;exact ha x hx
theorem zh2 (l:List Run) (hl:∀r∈l,za1 r=false):0<=za0 l:=by
 unfold za0;refine(zbo (I:=λ_ (n:Int)=>0<=n) (n:=l.length) (λs k hk hs=> ?_) (yEZ _)) _ (yhX _);have:=zbl (hl _ (at_mem Run.o l k hk));omega
theorem zei {s:Sm} (h:zcd s=0):s.r.length<=24/\(∀r∈s.r,za1 r=false)/\0<=s.z/\s.z<=2147483647:=by
 refine⟨?_,?_,zeO h⟩
 ·unfold zcd at h;split at h
  ·omega
  ·omega
 ·unfold zcd at h;split at h
  ·omega
  ·split at h
   ·rename_i h2;simp only[ykX,y1X,ySY] at h2
    exact λr hr=>by simpa using h2.1 r hr
   ·omega
theorem zni {s:Sm} (h:s.r.length<=24/\(∀r∈s.r,za1 r=false)/\0<=s.z/\s.z<=2147483647):zcd s=0:=by
 unfold zcd;rw[yfX zo,ygX]
 have h1:s.r.any za1=false:=by rw[ySY];intro r hr;rw[h.2.1 r hr];decide
 have h2:num s.z=true:=by unfold num wi;simp[h.2.2]
 rw[h1,h2];rfl
theorem RecOk.strs {i:Int} {x:Rc} (h:RecOk i x) (hu:x.u=true) (l:List Sm) (hl:l.length<=8) (hs:∀s∈l,zcd s=0):RecOk i {x with ss:=l}:=
 {h with ss8:=hl,sn:=hs,un:=λe=>by have e:x.u=false:=e;rw[hu] at e;cases e}
theorem Rv.badRuns {p:Rp} (h:Rv p):Rv (badRuns p):=
 za4 (I:=λq:Rp×List Bool=>Rv q.1) (λs i hs=>by
  unfold zac;split
  ·rename_i hu;rw[zae] at hu;refine(za4 (I:=λq:Rp×List Bool=>Rv q.1/\(at_ Rc.o q.1.v.rs i).u=true) (λt k ⟨ht,hut⟩=> ?_) ⟨hs,hu⟩ _).1;unfold zaq;dsimp only;have hx:=zae t.1 i;split
   ·exact⟨ht,hut⟩
   ·rename_i t' l hcut;refine⟨(ht.of_v (q:=t.1.note 1 i k) rfl).setR i _ λhi=> ?_,?_⟩
    ·rw[hx] at hcut⊢;refine(ht.at hi).strs hut _ (by rw[yoX];exact(ht.at hi).ss8) λs hs=> ?_
     rcases yoZ hs with hs|rfl
     ·exact(ht.at hi).sn s hs
     ·by_cases hk:k<(at_ Rc.o t.1.v.rs i).ss.length
      ·have h0:=zei ((ht.at hi).sn _ (at_mem Sm.o _ k hk));have h1:=zh0 _ t.2 [] h0.2.1 (λ_ h=>(by cases h)) l (by unfold cut at hcut;rw[hcut])
       have hl24:l.length<=24:=by have:=h1.1;simp only[ySX,ylX] at this;omega
       have hcl:=zh2 l h1.2;exact zni ⟨hl24,h1.2,by show 0<=min _ _;omega,by show min _ _<=(2147483647:Int);omega⟩
      ·rw[y8Y zo] at hs;exact(ht.at hi).sn _ hs
    ·show(at_ Rc.o (t.1.v.rs.set i _) i).u=true;rw[zb0];split
     ·show(t.1.rc i).u=true;rw[hx];exact hut
     ·exact hut
  ·exact hs) h _
theorem Kd.right {p q:Rp} (h:Kd p q) (hl:q.v.rs.length=p.v.rs.length) (r:Ref):right q.v r=right p.v r:=by
 unfold Ck.right own rc;rw[hl,(h _).1,(h _).2.1,(h _).2.2]
theorem Kd.ref {p q:Rp} (h:Kd p q) (i:Int):q.ref i=p.ref i:=by
 unfold Rp.ref Rp.rc rc;rw[(h _).2.2]
def Kn (p q:Rp):Prop:=∀i,(at_ Rc.o q.v.rs i).ns=(at_ Rc.o p.v.rs i).ns
def Eo (p:Rp) (d:Nat) (e:En):Prop:=right p.v e.f=true/\16<=e.f.r/\⟨p.ref d,e.n⟩∈(p.rc e.f.r).ns
def zm8 (p:Rp):Prop:=∀d,∀e∈(at_ Rc.o p.v.rs d).es,Eo p d e
def Pws (l:List En):Prop:=l.Pairwise λx y=>same x.n y.n=false
def Pw (p:Rp):Prop:=∀d,Pws (at_ Rc.o p.v.rs d).es
theorem Eo.of {p q:Rp} (h:Kp p q) (hn:Kn p q) {d:Nat} {e:En} (he:Eo p d e):Eo q d e:=by
 obtain⟨a,b,c⟩:=he;refine⟨by rw[h.2.1.right h.2.2.2];exact a,b,?_⟩;rw[h.2.1.ref];show _∈(at_ Rc.o q.v.rs e.f.r.toNat).ns;rw[hn];exact c
theorem zfa (a b:List UInt8):same a b=same b a:=by unfold same;rw[yhZ];simp only[yiY];exact eq_comm
theorem Pws.snoc {l:List En} {x:En} (h:Pws l) (hx:l.any (λy=>same x.n y.n)=false):Pws (l++[x]):=by
 unfold Pws at h⊢;rw[List.pairwise_append];refine⟨h,List.pairwise_singleton _ _,λa ha b hb=> ?_⟩
 rcases yiX.1 hb with rfl
 rw[ySY] at hx;rw[zfa];simpa using hx a ha
theorem zjY {p:Rp} {d:Nat} {b:List En} {x:En} (h:zdu p d b x=true):b.any (λy=>same x.n y.n)=false/\Eo p d x:=by
 unfold zdu at h;simp only[ykX,y1X,yDX] at h;obtain⟨⟨⟨h1,h2⟩,h3⟩,h4⟩:=h;exact⟨h1,h2,h3,by simpa using h4⟩
theorem zob {i:Nat} {es:List En} {p:Rp}:∀k,(∀e∈(it (entryStep i es) (p,[]) k).2,Eo p i e)/\Pws (it (entryStep i es) (p,[]) k).2/\(it (entryStep i es) (p,[]) k).1.v=p.v
 |0=>⟨λ_ h=>(by cases h),List.Pairwise.nil,rfl⟩
 |k+1=>by
  obtain⟨h1,h2,h3⟩:=zob (i:=i) (es:=es) (p:=p) k;show(∀e∈(entryStep i es (it (entryStep i es) (p,[]) k) k).2,Eo p i e)/\Pws (entryStep i es (it (entryStep i es) (p,[]) k) k).2/\(entryStep i es (it (entryStep i es) (p,[]) k) k).1.v=p.v
  generalize it (entryStep i es) (p,[]) k=s at*
  unfold entryStep;dsimp only;split
  ·rename_i hc;obtain⟨g1,g2⟩:=zjY hc;refine⟨λe he=> ?_,h2.snoc g1,h3⟩
   rcases yRX.1 he with he|he
   ·exact h1 e he
   ·rcases yiX.1 he with rfl
    unfold Eo Rp.ref Rp.rc at g2⊢;rw[h3] at g2;exact g2
  ·split
   ·exact⟨h1,h2,h3⟩
   ·exact⟨h1,h2,h3⟩
theorem RecOk.noents {i:Int} {x:Rc} (h:RecOk i x) (hd:dir x=false):x.es=[]:=by
 unfold dir at hd;cases hu:x.u
 ·have:=(h.un hu).2;have h1:=h.ln;have h2:=h.ds;have h3:=h.k;unfold Rc.parts at this;exact yeX zo
 ·rw[hu] at hd;simp only[y3X,beq_eq_false_iff_ne] at hd
  exact yeX (by
   by_cases e:0<x.es.length
   ·exact absurd (h.es0 e) hd
   ·omega)
theorem zfI {p:Rp} (h:Rv p):zm8 (badEntries p)/\Pw (badEntries p)/\Kn p (badEntries p):=by
 have key:∀k,k<=p.v.rs.length->(∀d,d<k->(∀e∈(at_ Rc.o (it zaa p k).v.rs d).es,Eo p d e)/\Pws (at_ Rc.o (it zaa p k).v.rs d).es)/\(∀d,k<=d->at_ Rc.o (it zaa p k).v.rs d=at_ Rc.o p.v.rs d)/\Kn p (it zaa p k)/\Kp p (it zaa p k):=by
  refine zbo (I:=λk q=>(∀d,d<k->(∀e∈(at_ Rc.o q.v.rs d).es,Eo p d e)/\Pws (at_ Rc.o q.v.rs d).es)/\(∀d,k<=d->at_ Rc.o q.v.rs d=at_ Rc.o p.v.rs d)/\Kn p q/\Kp p q) (λs k hk ⟨h1,h2,h3,h4⟩=> ?_) ⟨λd hd=>absurd hd (ypX _),λ_ _=>rfl,λ_=>rfl,ybY _⟩;have hx:s.rc k=at_ Rc.o s.v.rs k:=zae s k;have hxp:=h2 k (yhX _);unfold zaa;split
  ·obtain⟨g1,g2,g3⟩:=zob (i:=k) (es:=(s.rc k).es) (p:=s) (s.rc k).es.length;have g4:=Kp.it (g:=Prod.fst) (λt j=>Kp.entryStep k (s.rc k).es t j (ybY _)) (s,[]) (s.rc k).es.length;dsimp only
   generalize it (entryStep k (s.rc k).es) (s,[]) (s.rc k).es.length=t at*
   have g4:Kp s t.1:=g4
   have hxt:t.1.rc k=at_ Rc.o s.v.rs k:=by rw[zae,g3]
   have hkl:k<s.v.rs.length:=by rw[h4.2.2.2];exact hk
   have hat:∀d,at_ Rc.o (t.1.setR k {t.1.rc k with es:=t.2}).v.rs d=if k=d then{at_ Rc.o s.v.rs k with es:=t.2} else at_ Rc.o s.v.rs d:=λd=>by
    show at_ Rc.o (t.1.v.rs.set k _) d=_;rw[zb0,g3,hxt];by_cases e:k=d
    ·subst e;rw[ygX ⟨rfl,hkl⟩,ygX rfl]
    ·rw[yfX (λc=>e c.1),yfX e]
   have hback:∀e,Eo s k e->Eo p k e:=λe he=>by
    obtain⟨a,b,c⟩:=he;refine⟨by rw[←h4.2.1.right h4.2.2.2];exact a,b,?_⟩;rw[←h4.2.1.ref];show _∈(at_ Rc.o p.v.rs e.f.r.toNat).ns;rw[←h3];exact c
   refine⟨λd hd=> ?_,λd hd=> ?_,λd=> ?_,?_⟩
   ·rw[hat];by_cases e:k=d
    ·subst e;rw[ygX rfl];exact⟨λe he=>hback e (g1 e he),g2⟩
    ·rw[yfX e];exact h1 d zo
   ·rw[hat,yfX zo];exact h2 d zo
   ·rw[hat];by_cases e:k=d
    ·subst e;rw[ygX rfl];exact h3 k
    ·rw[yfX e];exact h3 d
   ·exact(h4.trans g4).setR k _ (by rw[zae];exact⟨⟨rfl,rfl,rfl⟩,rfl⟩)
  ·rename_i hd;refine⟨λd hdk=> ?_,λd hdk=>h2 d zo,h3,h4⟩;by_cases e:d=k
   ·subst e;rw[hx,hxp] at hd;have:=(h.at hk).noents (by simpa using hd);rw[hxp,this];exact⟨λ_ h=>(by cases h),List.Pairwise.nil⟩
   ·exact h1 d zo
 obtain⟨h1,h2,h3,h4⟩:=key _ (yhX _)
 have hout:∀d,p.v.rs.length<=d->(at_ Rc.o (it zaa p p.v.rs.length).v.rs d).es=[]:=λd hd=>by
  rw[h2 d hd];unfold at_;rw[yyX zo];rfl
 refine⟨λd e he=> ?_,λd=> ?_,h3⟩
 ·by_cases hd:d<p.v.rs.length
  ·exact((h1 d hd).1 e he).of h4 h3
  ·have he:e∈(at_ Rc.o (it zaa p p.v.rs.length).v.rs d).es:=he;rw[hout d zo] at he;cases he
 ·by_cases hd:d<p.v.rs.length
  ·exact(h1 d hd).2
  ·show Pws (at_ Rc.o (it zaa p p.v.rs.length).v.rs d).es;rw[hout d zo];exact List.Pairwise.nil
end Ck
