/- Own text, part Rprt 6: walks of the package acl and of its reference, and the plain laws that they lean on; no statement of the seat is here. -/
import Derived.Test.YtgcjejajljhnaaaGreatDoorRprt1
import Derived.Test.YtgcjejajljhnaaaGreatDoorRprt5
import Derived.Shelf.Small.Strs
import Derived.Shelf.Strconv.Itoa0
import Derived.Shelf.Strconv.Itoa1
import Derived.Shelf.LaysM
import Derived.Shelf.Strconv.Itoa2
import Derived.Shelf.Strconv.Itoa3
import Derived.Shelf.Strings.Prefix
import Derived.Ground.Names2Prog
import Derived.Ground.SlgnProg
import Derived.Test.YtgcjejajljhnaaaGreatDoorProg
import Derived.Test.YtgcjejajljhnaaaGreatDoorRprt3
set_option linter.all false
namespace Ck
open Go Go.Ex
def aFd (x:Fd):List AV:=[ib x.k,ib x.r,ib x.i]
noncomputable def seS (ph:Bool) (A i:Nat) (x:Rc):AV:=if ph=true∨x.ss=[] then LS 2 aSm Sm.o x.ss else .so (fam A (2*i)) 0 x.ss.length 0
noncomputable def seE (A i:Nat) (x:Rc):AV:=if x.es=[] then LS 4 aEn En.o [] else .so (fam A (2*i+1)) 0 x.es.length 0
noncomputable def slF (A:Nat) (l:List Fd):AV:=if l=[] then .sc (.slice none 0 0) else .so (fam A 192) 0 l.length 0
noncomputable def slL (A:Nat) (l:List Int):AV:=if l=[] then .sc (.slice none 0 0) else .so (fam A 193) 0 l.length 0
noncomputable def rcP (ph:Bool) (A i:Nat) (x:Rc):List AV:=[bb x.u,ib x.q,ib x.k,ib x.b.r,ib x.b.q,ib x.ln,ib x.ds,LS 3 aNm Nm.o x.ns,seS ph A i x,seE A i x]
noncomputable def zaC (A k:Nat) (p:Rp):List AV:=[ib p.v.c,LS 2 zaP Run.o p.v.al, .so k 0 p.v.rs.length 0,LS 1 aI 0 p.v.ds,tb p.v.mp,slF A p.fd,slL A p.fl]
def gP (ph:Bool) (p:Rp) (j:Nat):Option AO:=
 if j=192 then(if p.fd=[] then none else some (.row (p.fd.flatMap aFd) 86 3))
 else if j=193 then(if p.fl=[] then none else some (.row (p.fl.map ib) 3 1))
 else match p.v.rs[j/2]? with
  |none=>none
  |some x=>if j%2=0 then(if ph=true∨x.ss=[] then none else some (.row (x.ss.flatMap aSm) 80 2)) else(if x.es=[] then none else some (.row (x.es.flatMap aEn) 73 4))
theorem zab (ph:Bool) (A:Nat):∀i x,(rcP ph A i x).length=10:=λ_ _=>rfl
theorem zir {ph:Bool} {A i:Nat} {x:Rc} (h:ph=true∨x.ss=[]):seS ph A i x=LS 2 aSm Sm.o x.ss:=ygX h
theorem ze9 {A i:Nat} {x:Rc} (h:x.ss≠[]):seS false A i x= .so (fam A (2*i)) 0 x.ss.length 0:=yfX (by simp[h])
theorem zbM {A i:Nat} {x:Rc} (h:x.es=[]):seE A i x=LS 4 aEn En.o []:=ygX h
theorem zbB {A i:Nat} {x:Rc} (h:x.es≠[]):seE A i x= .so (fam A (2*i+1)) 0 x.es.length 0:=yfX h
theorem zgm {A:Nat} {l:List Fd} (h:l≠[]):slF A l= .so (fam A 192) 0 l.length 0:=yfX h
theorem zkR {A:Nat} {l:List Int} (h:l≠[]):slL A l= .so (fam A 193) 0 l.length 0:=yfX h
theorem zj8 {ph:Bool} {p:Rp} (h:p.fd≠[]):gP ph p 192=some (.row (p.fd.flatMap aFd) 86 3):=by unfold gP;rw[ygX rfl,yfX h]
theorem zrh {ph:Bool} {p:Rp} (h:p.fl≠[]):gP ph p 193=some (.row (p.fl.map ib) 3 1):=by unfold gP;rw[yfX (by decide),ygX rfl,yfX h]
theorem zcQ {ph:Bool} {p:Rp} {j:Nat} (h:j<192):gP ph p j=match p.v.rs[j/2]? with
  |none=>none
  |some x=>if j%2=0 then(if ph=true∨x.ss=[] then none else some (.row (x.ss.flatMap aSm) 80 2)) else(if x.es=[] then none else some (.row (x.es.flatMap aEn) 73 4)):=by
 unfold gP;rw[yfX zo,yfX zo]
theorem zoZ {p:Rp} {i:Nat} (hi:i<p.v.rs.length) (h96:i<96) (h:(at_ Rc.o p.v.rs i).ss≠[]):gP false p (2*i)=some (.row ((at_ Rc.o p.v.rs i).ss.flatMap aSm) 80 2):=by
 rw[zcQ zo,show 2*i/2=i by omega,ysX hi,←zaS Rc.o _ _ hi];simp only;rw[ygX zo,yfX (by simp[h])]
theorem zfA {ph:Bool} {p:Rp} {i:Nat} (hi:i<p.v.rs.length) (h96:i<96) (h:(at_ Rc.o p.v.rs i).es≠[]):gP ph p (2*i+1)=some (.row ((at_ Rc.o p.v.rs i).es.flatMap aEn) 73 4):=by
 rw[zcQ zo,show(2*i+1)/2=i by omega,ysX hi,←zaS Rc.o _ _ hi];simp only;rw[yfX zo,yfX h]
theorem zj9 (ph:Bool) (p:Rp):∀j o,gP ph p j=some o->zaZ o:=by
 intro j o h;have hs:∀x:Sm,cont.contL (aSm x)=true:=λ_=>rfl;have he:∀x:En,cont.contL (aEn x)=true:=λ_=>rfl;have hf:∀x:Fd,cont.contL (aFd x)=true:=λ_=>rfl
 have hm:∀l:List Int,cont.contL (l.map ib)=true:=by
  intro l
  induction l with
  |nil=>rfl
  |cons a l ih=>exact ih
 unfold gP at h;split at h
 ·split at h
  ·cases h
  ·cases h;exact zay hf _
 ·split at h
  ·split at h
   ·cases h
   ·cases h;exact hm _
  ·split at h
   ·cases h
   ·split at h
    ·split at h
     ·cases h
     ·cases h;exact zay hs _
    ·split at h
     ·cases h
     ·cases h;exact zay he _
theorem ztk {ph:Bool} {p q:Rp} {i:Nat} (hl:q.v.rs.length=p.v.rs.length) (hfd:q.fd=p.fd) (hfl:q.fl=p.fl) (hr:∀k,k≠i->at_ Rc.o q.v.rs k=at_ Rc.o p.v.rs k) {j:Nat} (h1:j≠2*i) (h2:j≠2*i+1):gP ph q j=gP ph p j:=by
 unfold gP;rw[hfd,hfl]
 have:q.v.rs[j/2]? =p.v.rs[j/2]? :=by
  by_cases hk:j/2<p.v.rs.length
  ·have:=hr (j/2) zo;rw[zaS _ _ _ zo,zaS _ _ _ hk] at this;rw[ysX zo,ysX hk,this]
  ·rw[yyX zo,yyX zo]
 rw[this]
theorem zj7 {ph:Bool} {p q:Rp} (hr:q.v.rs=p.v.rs) {j:Nat} (h1:j≠192) (h2:j≠193):gP ph q j=gP ph p j:=by
 unfold gP;rw[yfX h1,yfX h2,yfX h1,yfX h2,hr]
theorem zel {s:St} {b:Nat} {c:List AV} {e:TypeId} {q:Nat} (h:s.h.get b=some (.row c e q)):Ex.rowAt s b= .ok (c,e,q):=by
 unfold Ex.rowAt;rw[h];rfl
section
variable {P : Program} {s : St} {K : KC} {α : Type} {f : Nat -> α -> List AV} {sz : Nat}
theorem zam (hf:∀i x,(f i x).length=sz) (o:α) {l:List α} {T:TypeId} {b j k n off:Nat} {e:TypeId} {q:Nat} {v:AV} (hoff:off=j*sz+k) (hT:tyS P T= .ok (false,n)) (hr:s.h.get b=some (.row (flatI f 0 l) e q)) (hj:j<l.length) (hk:k<sz) (hv:(f j (at_ o l j))[k]? =some v):zcw P s T b off= .ok v:=by
 subst hoff;refine zlg hr hT ?_;rw[zci hf o l 0 j k hj hk,ylX];exact hv
theorem zch (hf:∀i x,(f i x).length=sz) (o:α) {l:List α} {T:TypeId} {b j off:Nat} {e:TypeId} {q:Nat} {c:List AV} (hoff:off=j*sz) (hT:tyS P T= .ok (true,sz)) (hr:s.h.get b=some (.row (flatI f 0 l) e q)) (hj:j<l.length) (hc:f j (at_ o l j)=c):zcw P s T b off= .ok (.agg c):=by
 subst hoff;refine zlh hr hT ?_ (by rw[zf5 hf o l j hj,hc]);rw[zbE hf]
 have:j*sz+sz<=l.length*sz:=by rw[←ybZ];exact yEX _ hj
 exact this
theorem zxh (hf:∀i x,(f i x).length=sz) (o:α) {l:List α} {T:TypeId} {b j k n off:Nat} {e:TypeId} {q:Nat} {c:List AV} (hoff:off=j*sz+k) (hT:tyS P T= .ok (true,n)) (hr:s.h.get b=some (.row (flatI f 0 l) e q)) (hj:j<l.length) (hk:k+n<=sz) (hc:((f j (at_ o l j)).drop k).take n=c):zcw P s T b off= .ok (.agg c):=by
 subst hoff
 have hlt:j*sz+sz<=l.length*sz:=by rw[←ybZ];exact yEX _ hj
 refine zlh hr hT (by rw[zbE hf];omega) ?_;rw[←hc];have h1:=zf5 hf o l j hj;rw[←h1,List.drop_take,List.drop_drop,List.take_take,yWZ zo]
theorem zaV (hf:∀i x,(f i x).length=sz) (o:α) {l:List α} {T:TypeId} {b j k n off:Nat} {v:AV} {e:TypeId} {q:Nat} {a:Bool} (cs c':List AV) (hoff:off=j*sz+k) (hn:zeH v=true) (hT:tyS P T= .ok (a,n)) (hcs:v.cells=cs) (hl:cs.length=n) (h1:za8 cs=true) (hr:s.h.get b=some (.row (flatI f 0 l) e q)) (hj:j<l.length) (hk:k+n<=sz)
  (hc:(f j (at_ o l j)).take k++(cs++(f j (at_ o l j)).drop (k+n))=c') (hk2:(s.set b (.row (flatI (zfS f j c') 0 l) e q)).nfK λs=>K AV.undef s):zdQ (zcY P s T (.ptr b off) v) K:=by
 subst hoff
 have hlt:j*sz+sz<=l.length*sz:=by rw[←ybZ];exact yEX _ hj
 have h1':∀x∈v.cells,zgW x=true:=by
  rw[hcs];clear hcs hl hc
  induction cs with
  |nil=>intro x hx;cases hx
  |cons y l ih=>
   unfold za8 at h1;split at h1
   ·rename_i hy;intro x hx
    rcases yAX.1 hx with rfl|hx
    ·exact hy
    ·exact ih h1 x hx
   ·cases h1
 refine zdP (zdR (c':=flatI (zfS f j c') 0 l) hn hT (by rw[hcs];exact hl) h1' hr (by rw[zbE hf];omega) ?_) hk2;rw[hcs];exact zlt hf o hj hk hl hc
end
theorem zbm {g:Nat->Option AO} {k j:Nat} {x:Option AO} (h:j≠k):zpD g k x j=g j:=by rw[zcF,yfX h]
theorem zn6 (l:List Fd):(l.flatMap aFd).length=0+l.length*3:=by rw[ynZ (sz:=3) (λ_=>rfl),ylX]
theorem zun (l:List Int):(l.map ib).length=0+l.length*1:=by simp
theorem zrt (l:List En):(l.flatMap aEn).length=0+l.length*4:=by rw[ynZ (sz:=4) (λ_=>rfl),ylX]
theorem zbp (l:List En):cont.contL (l.flatMap aEn)=true:=zay (λ_=>rfl) l
theorem zhb (l:List Sm):cont.contL (l.flatMap aSm)=true:=zay (λ_=>rfl) l
theorem zbW (l:List Fd):cont.contL (l.flatMap aFd)=true:=zay (λ_=>rfl) l
theorem zbV :∀l:List Int,cont.contL (l.map ib)=true
 |[]=>rfl
 |_::l=>zbV l
theorem Wzc {h:T AO} {z:List Nat} {x y:AV} {l l':List AV} (h1:Wz h z x y) (h2:Wzl h z l l'):Wzl h z (x::l) (y::l'):=by unfold Wzl;exact⟨h1,h2⟩
theorem Wzn {h:T AO} {z:List Nat}:Wzl h z [] []:=by unfold Wzl;trivial
theorem Wza {h:T AO} {z:List Nat} {v:AV}:Wz h z .any v:=by unfold Wz;trivial
theorem zu3 (ph:Bool) (A i:Nat) (x:Rc):zgW (seS ph A i x)=true:=by unfold seS;split<;>rfl
theorem zu5 (A i:Nat) (x:Rc):zgW (seE A i x)=true:=by unfold seE;split<;>rfl
theorem zjr (ph:Bool) (A i:Nat) (x:Rc):∀y∈rcP ph A i x,zgW y=true:=by
 intro y hy;unfold rcP at hy
 rcases yAX.1 hy with rfl|hy;rfl
 rcases yAX.1 hy with rfl|hy;rfl
 rcases yAX.1 hy with rfl|hy;rfl
 rcases yAX.1 hy with rfl|hy;rfl
 rcases yAX.1 hy with rfl|hy;rfl
 rcases yAX.1 hy with rfl|hy;rfl
 rcases yAX.1 hy with rfl|hy;rfl
 rcases yAX.1 hy with rfl|hy;rfl
 rcases yAX.1 hy with rfl|hy;exact zu3 _ _ _ _
 rcases yAX.1 hy with rfl|hy;exact zu5 _ _ _
 cases hy
theorem zct {P:Program} {s:St} {K:KC} {T:TypeId} {b off:Nat} {c:List AV} {e:TypeId} {q:Nat} {ph:Bool} {A i:Nat} {x:Rc} (hoff:off=0) (hT:tyS P T= .ok (true,10)) (hr:s.h.get b=some (.row c e q)) (hc:c.length=10) (hk:(s.set b (.row (rcP ph A i x) e q)).nfK λs=>K AV.undef s):zdQ (zcY P s T (.ptr b off) (.agg (rcP ph A i x))) K:=by
 subst hoff;exact zdP (zdR rfl hT rfl (zjr ph A i x) hr zo (by rw[List.take_zero,yAY,ylX,←hc,y9X,yKX];rfl)) hk
def zF (A:Nat) (l:List Nat):List Nat:=l++List.range' A 200
theorem za3 {A j:Nat} {l:List Nat} (h:j<200):fam A j∈zF A l:=by
 unfold zF;rw[zbk];exact y6X _ (by rw[List.mem_range'_1];omega)
theorem zbt {A k:Nat} {l:List Nat} (h:k∈l):k∈zF A l:=yUX _ h
section
variable {h : T AO} {z : List Nat} {A : Nat} {ph : Bool} {p : Rp}
structure Lies (h:T AO) (z:List Nat) (A:Nat) (ph:Bool) (p:Rp):Prop where
 z:∀j,j<200->fam A j∈z
 g:∀j,j<200->h.get (fam A j)=gP ph p j
theorem zl8 {j n sz:Nat} {α:Type} {enc:α->List AV} {o:α} {l:List α} {e:TypeId} {q:Nat} (he:∀x,(enc x).length=sz) (hc:∀x,cont.contL (enc x)=true) (hr:h.get (fam A j)=some (.row (l.flatMap enc) e q)) (hz:fam A j∈z) (hn:n=l.length) (hp:Nat.blt 0 sz=true:=by rfl):Wz h z (LS sz enc o l) (.so (fam A j) 0 n 0):=Wz.list he hc hr hz hn rfl hp
theorem zwM (H:Lies h z A ph p) {i:Nat} (hi:i<p.v.rs.length) (h96:i<96):Wz h z (LS 2 aSm Sm.o (at_ Rc.o p.v.rs i).ss) (seS ph A i (at_ Rc.o p.v.rs i)):=by
 unfold seS
 by_cases hs:ph=true∨(at_ Rc.o p.v.rs i).ss=[]
 ·rw[ygX hs];exact ydX rfl
 ·rw[yfX hs]
  have hph:ph=false:=by cases ph with|false=>rfl|true=>exact absurd (.inl rfl) hs
  subst hph;exact zl8 (λ_=>rfl) (λ_=>rfl) ((H.g _ zo).trans (zoZ hi h96 (λe=>hs (.inr e)))) (H.z _ zo) rfl
theorem zwP (H:Lies h z A ph p) {i:Nat} (hi:i<p.v.rs.length) (h96:i<96):Wz h z (LS 4 aEn En.o (at_ Rc.o p.v.rs i).es) (seE A i (at_ Rc.o p.v.rs i)):=by
 unfold seE
 by_cases hs:(at_ Rc.o p.v.rs i).es=[]
 ·rw[ygX hs,hs];exact ydX rfl
 ·rw[yfX hs];exact zl8 (λ_=>rfl) (λ_=>rfl) ((H.g _ zo).trans (zfA hi h96 hs)) (H.z _ zo) rfl
theorem zw1 (H:Lies h z A ph p) {i:Nat} (hi:i<p.v.rs.length) (h96:i<96):Wzl h z (aRc (at_ Rc.o p.v.rs i)) (rcP ph A i (at_ Rc.o p.v.rs i)):=
 Wzc (ydX rfl) (Wzc (ydX rfl) (Wzc (ydX rfl) (Wzc (ydX rfl) (Wzc (ydX rfl) (Wzc (ydX rfl) (Wzc (ydX rfl) (Wzc (ydX rfl) (Wzc (zwM H hi h96) (Wzc (zwP H hi h96) Wzn)))))))))
theorem zqn (H:Lies h z A ph p) {b n:Nat} {e:TypeId} {q:Nat} (h96:p.v.rs.length<=96) (hr:h.get b=some (.row (flatI (rcP ph A) 0 p.v.rs) e q)) (hb:b∈z) (hn:n=p.v.rs.length):Wz h z (LS 10 aRc Rc.o p.v.rs) (.so b 0 n 0):=by
 unfold Wz;refine⟨hn,hb,rfl,_,_,_,hr,by rw[zbE (zab ph A)];omega,λi hi=>⟨rfl,?_⟩⟩;rw[zf5 (zab ph A) Rc.o p.v.rs i hi];exact zw1 H hi zo
theorem zeG (H:Lies h z A ph p) {b n:Nat} {e:TypeId} {q:Nat} (h96:p.v.rs.length<=96) (hr:h.get b=some (.row (flatI (rcP ph A) 0 p.v.rs) e q)) (hb:b∈z) (hn:n=p.v.rs.length):Wz h z (zbF p.v) (.agg [ib p.v.c,LS 2 zaP Run.o p.v.al, .so b 0 n 0,LS 1 aI 0 p.v.ds,tb p.v.mp]):=by
 unfold Wz;exact Wzc (ydX rfl) (Wzc (ydX rfl) (Wzc (zqn H h96 hr hb hn) (Wzc (ydX rfl) (Wzc (ydX rfl) Wzn))))
end
section
variable {h : T AO} {z : List Nat} {A : Nat} {ov : List (Nat × Nat)} {r : List Nat}
noncomputable abbrev RG (A:Nat) (ov:List (Nat×Nat)) (r:List Nat):Nat->Option Nat:=zbQ 20 220 A ov r
theorem zio {j n:Nat} (hj:j<200) (hp:∀p∈ov,j≠p.1):NmP (RS (RG A ov r)) (.so (fam 20 j) 0 n 0)/\Wv h z (RD (RG A ov r)) (.so (fam 20 j) 0 n 0) (.so (fam A j) 0 n 0):=by
 refine⟨by unfold NmP;exact zlT hj,?_⟩;unfold Wv;exact⟨(zsj hj hp).symm,rfl,rfl,rfl⟩
theorem zkO {j n k:Nat} (hj:j<200):NmP (RS (RG A ((j,k)::ov) r)) (.so (fam 20 j) 0 n 0)/\Wv h z (RD (RG A ((j,k)::ov) r)) (.so (fam 20 j) 0 n 0) (.so k 0 n 0):=by
 refine⟨by unfold NmP;exact zlT hj,?_⟩;unfold Wv;exact⟨(zyK hj).symm,rfl,rfl,rfl⟩
theorem zpU {i j n k m:Nat} (hj:j<200) (hij:j≠i):NmP (RS (RG A ((i,m)::(j,k)::ov) r)) (.so (fam 20 j) 0 n 0)/\Wv h z (RD (RG A ((i,m)::(j,k)::ov) r)) (.so (fam 20 j) 0 n 0) (.so k 0 n 0):=by
 refine⟨by unfold NmP;exact zlT hj,?_⟩;unfold Wv;exact⟨(zxS hj hij).symm,rfl,rfl,rfl⟩
mutual
theorem zqI {p:Nat->Prop}:∀v:AV,cont v=true->NmP p v
 | .sc _,_=>trivial
 | .lst _ _ _,_=>trivial
 | .cp _ _,_=>trivial
 | .any,_=>trivial
 | .agg l,h=>zcb l h
 | .ptr _ _,h=>(by cases h)
 | .sl _ _ _ _,h=>(by cases h)
 | .so _ _ _ _,h=>(by cases h)
 | .fn _ a b,h=>by
  unfold cont at h;split at h
  ·rename_i h1;exact⟨zcb a h1,zcb b h⟩
  ·cases h
 | .tup _,h=>(by cases h)
 | .ifc _ _,h=>(by cases h)
theorem zcb {p:Nat->Prop}:∀l:List AV,cont.contL l=true->zgy p l
 |[],_=>trivial
 |x::l,h=>by
  unfold cont.contL at h;split at h
  ·rename_i hx;exact⟨zqI x hx,zcb l h⟩
  ·cases h
end
theorem zdh {v:AV} {p:Nat->Prop} {rr:Nat->Nat} (hc:cont v=true):NmP p v/\Wv h z rr v v:=⟨zqI v hc,zdD hc⟩
def WL (h:T AO) (z:List Nat) (R:Nat->Option Nat) (c1 c:List AV):Prop:=zgy (RS R) c1/\Wvl h z (RD R) c1 c
theorem WL.nil {R:Nat->Option Nat}:WL h z R [] []:=⟨trivial,by unfold Wvl;trivial⟩
theorem WL.cons {R:Nat->Option Nat} {x y:AV} {l l':List AV} (h1:NmP (RS R) x/\Wv h z (RD R) x y) (h2:WL h z R l l'):WL h z R (x::l) (y::l'):=⟨⟨h1.1,h2.1⟩,by unfold Wvl;exact⟨h1.2,h2.2⟩⟩
theorem ziz {p:Nat->Prop}:∀{a b:List AV},zgy p a->zgy p b->zgy p (a++b)
 |[],_,_,hb=>hb
 |_::_,_,ha,hb=>⟨ha.1,ziz ha.2 hb⟩
theorem WL.append {R:Nat->Option Nat} {a b x y:List AV} (h1:WL h z R a b) (h2:WL h z R x y):WL h z R (a++x) (b++y):=⟨ziz h1.1 h2.1,zgg h1.2 h2.2⟩
theorem WL.sc {R:Nat->Option Nat} {v:AV} {l l':List AV} (hc:cont v=true) (h2:WL h z R l l'):WL h z R (v::l) (v::l'):=WL.cons (zdh hc) h2
theorem ztX {R:Nat->Option Nat} {c c':List AV} {v:Value} (hc:WL h z R c c'):NmP (RS R) (.tup [.agg c, .sc v])/\Wv h z (RD R) (.tup [.agg c, .sc v]) (.tup [.agg c', .sc v]):=by
 refine⟨⟨hc.1,trivial,zT⟩,?_⟩;unfold Wv Wvl;refine⟨by unfold Wv;exact hc.2,?_⟩;unfold Wvl;exact⟨(zdh (p:=λ_=>True) rfl).2,by unfold Wvl;trivial⟩
theorem WL.flatI {α:Type} {R:Nat->Option Nat} {f g:Nat->α->List AV} (o:α):∀(l1 l2:List α) (i:Nat),l1.length=l2.length->(∀j,j<l1.length->WL h z R (f (i+j) (at_ o l1 j)) (g (i+j) (at_ o l2 j)))->WL h z R (Ck.flatI f i l1) (Ck.flatI g i l2)
 |[],[],i,_,_=>WL.nil
 |[],_::_,i,hl,_=>by cases hl
 |_::_,[],i,hl,_=>by cases hl
 |x::l1,y::l2,i,hl,hw=>by
  unfold Ck.flatI;refine WL.append (hw 0 (by simp)) (WL.flatI o l1 l2 (i+1) (by simpa using hl) λj hj=> ?_);have h2:=hw (j+1) (by simpa using hj);have e:i+(j+1)=i+1+j:=zo;rw[e] at h2;exact h2
theorem WL.row {R:Nat->Option Nat} {c1 c:List AV} (hw:WL h z R c1 c):WRowG h z R c1 c:= .inl hw
theorem zmc {ph:Bool} {i:Nat} {x:Rc} (hi:i<96) (hp:∀p∈ov,2*i≠p.1):NmP (RS (RG A ov r)) (seS ph 20 i x)/\Wv h z (RD (RG A ov r)) (seS ph 20 i x) (seS ph A i x):=by
 unfold seS
 by_cases hs:ph=true∨x.ss=[]
 ·rw[ygX hs,ygX hs];exact zdh rfl
 ·rw[yfX hs,yfX hs];exact zio zo hp
theorem zmd {i:Nat} {x:Rc} (hi:i<96) (hp:∀p∈ov,2*i+1≠p.1):NmP (RS (RG A ov r)) (seE 20 i x)/\Wv h z (RD (RG A ov r)) (seE 20 i x) (seE A i x):=by
 unfold seE
 by_cases hs:x.es=[]
 ·rw[ygX hs,ygX hs];exact zdh rfl
 ·rw[yfX hs,yfX hs];exact zio zo hp
theorem zwH {l:List Fd} (hp:∀p∈ov,192≠p.1):NmP (RS (RG A ov r)) (slF 20 l)/\Wv h z (RD (RG A ov r)) (slF 20 l) (slF A l):=by
 unfold slF
 by_cases hs:l=[]
 ·rw[ygX hs,ygX hs];exact zdh rfl
 ·rw[yfX hs,yfX hs];exact zio zo hp
theorem zyc {l:List Int} (hp:∀p∈ov,193≠p.1):NmP (RS (RG A ov r)) (slL 20 l)/\Wv h z (RD (RG A ov r)) (slL 20 l) (slL A l):=by
 unfold slL
 by_cases hs:l=[]
 ·rw[ygX hs,ygX hs];exact zdh rfl
 ·rw[yfX hs,yfX hs];exact zio zo hp
theorem zcv {ph:Bool} {i:Nat} {x:Rc} (hi:i<96) (hp:∀p∈ov,2*i≠p.1/\2*i+1≠p.1):WL h z (RG A ov r) (rcP ph 20 i x) (rcP ph A i x):=by
 unfold rcP
 repeat refine WL.sc rfl ?_
 refine WL.cons (zmc hi λp hq=>(hp p hq).1) (WL.cons (zmd hi λp hq=>(hp p hq).2) WL.nil)
theorem zb3 {ph:Bool} {rs:List Rc} (hn:rs.length<=96) (hp:∀p∈ov,191<p.1):WL h z (RG A ov r) (flatI (rcP ph 20) 0 rs) (flatI (rcP ph A) 0 rs):=
 WL.flatI Rc.o rs rs 0 rfl λj hj=>zcv zo λp hq=>by have:=hp p hq;omega
theorem zaI {ph:Bool} {rs rs':List Rc} {i:Nat} {c:List AV} (hn:rs.length<=96) (hl:rs'.length=rs.length) (hr:∀k,k≠i->at_ Rc.o rs' k=at_ Rc.o rs k) (hp:∀p∈ov,∀k,k<96->k≠i->2*k≠p.1/\2*k+1≠p.1) (hc:WL h z (RG A ov r) (rcP ph 20 i (at_ Rc.o rs' i)) c):WL h z (RG A ov r) (flatI (rcP ph 20) 0 rs') (flatI (zfS (rcP ph A) i c) 0 rs):=by
 refine WL.flatI Rc.o rs' rs 0 hl λj hj=> ?_;rw[ylX];by_cases e:j=i
 ·subst e;rw[zbR];exact hc
 ·rw[zg9 e,hr j e];exact zcv zo λp hq=>hp p hq j zo e
theorem zdY {p:Rp} {k:Nat} (hk:RS (RG A ov r) 1/\RD (RG A ov r) 1=k) (hp:∀p∈ov,192≠p.1/\193≠p.1):WL h z (RG A ov r) (zaC 20 1 p) (zaC A k p):=by
 unfold zaC;refine WL.sc rfl (WL.sc rfl (WL.cons ⟨hk.1,?_⟩ (WL.sc rfl (WL.sc rfl (WL.cons (zwH λp hq=>(hp p hq).1) (WL.cons (zyc λp hq=>(hp p hq).2) WL.nil))))));unfold Wv;exact⟨hk.2.symm,rfl,rfl,rfl⟩
end
section
variable {h : T AO} {z : List Nat} {A : Nat} {ov : List (Nat × Nat)} {r : List Nat}
theorem zuW {A:Nat} (l:List Fd) (x:Fd):slF A (l++[x])= .so (fam A 192) 0 (l.length+1) 0:=by rw[zgm (by simp)];simp
theorem zuV {A:Nat} (l:List Int) (x:Int):slL A (l++[x])= .so (fam A 193) 0 (l.length+1) 0:=by rw[zkR (by simp)];simp
theorem znk {l:List Fd} {x:Fd} {k n:Nat} (hn:n=l.length+1):NmP (RS (RG A ((192,k)::ov) r)) (slF 20 (l++[x]))/\Wv h z (RD (RG A ((192,k)::ov) r)) (slF 20 (l++[x])) (.so k 0 n 0):=by
 rw[zuW,hn];exact zkO zo
theorem zp3 {l:List Int} {x:Int} {k m n:Nat} (hn:n=l.length+1):NmP (RS (RG A ((192,m)::(193,k)::ov) r)) (slL 20 (l++[x]))/\Wv h z (RD (RG A ((192,m)::(193,k)::ov) r)) (slL 20 (l++[x])) (.so k 0 n 0):=by
 rw[zuV,hn];exact zpU zo zo
theorem zgl {k k0 n:Nat} (hk:RS (RG A ov r) k/\RD (RG A ov r) k=k0):NmP (RS (RG A ov r)) (.so k 0 n 0)/\Wv h z (RD (RG A ov r)) (.so k 0 n 0) (.so k0 0 n 0):=by
 refine⟨by unfold NmP;exact hk.1,?_⟩;unfold Wv;exact⟨hk.2.symm,rfl,rfl,rfl⟩
theorem znK {ph:Bool} {p:Rp} {k r i:Int} {g:Nat->Option AO} (hg:∀j,j≠192->j≠193->g j=gP ph p j) {a b:Nat}:∀j o1,gP ph (p.note k r i) j=some o1->(∀q∈[(192,a),(193,b)],j≠q.1)->g j=some o1/\zaZ o1:=by
 intro j o1 h1 h2;have e1:j≠192:=h2 (192,a) (by simp);have e2:j≠193:=h2 (193,b) (by simp);refine⟨?_,zj9 _ _ j o1 h1⟩;rw[hg j e1 e2];exact(zj7 (ph:=ph) (p:=p) (q:=p.note k r i) rfl e1 e2).symm.trans h1
theorem note_ov {ph:Bool} {p:Rp} {k r0 i:Int} {R:Nat->Option Nat} {a b:Nat} {ca cb:List AV} (ha:h.get a=some (.row ca 86 3)) (hca:ca=p.fd.flatMap aFd++[ib k,ib r0,ib i]) (hb:h.get b=some (.row cb 3 1)) (hcb:cb=p.fl.map ib++[ib (-1)]):
  ∀q∈[(192,a),(193,b)],∀o1,gP ph (p.note k r0 i) q.1=some o1->∃o,h.get q.2=some o/\WOG h z R o1 o:=by
 intro q hq o1 ho
 rcases yAX.1 hq with rfl|hq
 ·rw[zj8 (show(p.note k r0 i).fd≠[] by unfold Rp.note;simp)] at ho;cases ho;refine⟨_,ha,rfl,rfl, .same ?_ (by rw[hca];exact nmc (zbW _) rfl)⟩;rw[hca];unfold Rp.note;rw[yJX];rfl
 ·rcases yAX.1 hq with rfl|hq
  ·rw[zrh (show(p.note k r0 i).fl≠[] by unfold Rp.note;simp)] at ho;cases ho;refine⟨_,hb,rfl,rfl, .same ?_ (by rw[hcb];exact nmc (zbV _) rfl)⟩;rw[hcb];unfold Rp.note;rw[yJY];rfl
  ·cases hq
where
 nmc:∀{a b:List AV},cont.contL a=true->cont.contL b=true->cont.contL (a++b)=true
 |[],_,_,hb=>hb
 |x::a,b,ha,hb=>by
  unfold cont.contL at ha;show cont.contL (x::(a++b))=true;unfold cont.contL;split at ha
  ·exact nmc ha hb
  ·cases ha
end
section
variable {n n0 : Nat} {r : List Nat}
theorem zxY {j m:Nat} (hj:j<200):Rn (zdF 20 220 n n0 r) (.so (fam 20 j) 0 m 0) (.so (fam n j) 0 m 0):=by
 unfold Rn;rw[znu hj]
theorem zyg {ph:Bool} {i:Nat} {x:Rc} (hi:i<96):Rn (zdF 20 220 n n0 r) (seS ph 20 i x) (seS ph n i x):=by
 unfold seS
 by_cases hs:ph=true∨x.ss=[]
 ·rw[ygX hs,ygX hs];unfold Rn;rfl
 ·rw[yfX hs,yfX hs];exact zxY zo
theorem zyh {i:Nat} {x:Rc} (hi:i<96):Rn (zdF 20 220 n n0 r) (seE 20 i x) (seE n i x):=by
 unfold seE
 by_cases hs:x.es=[]
 ·rw[ygX hs,ygX hs];unfold Rn;rfl
 ·rw[yfX hs,yfX hs];exact zxY zo
theorem zye {l:List Fd}:Rn (zdF 20 220 n n0 r) (slF 20 l) (slF n l):=by
 unfold slF
 by_cases hs:l=[]
 ·rw[ygX hs,ygX hs];unfold Rn;rfl
 ·rw[yfX hs,yfX hs];exact zxY zo
theorem zyd {l:List Int}:Rn (zdF 20 220 n n0 r) (slL 20 l) (slL n l):=by
 unfold slL
 by_cases hs:l=[]
 ·rw[ygX hs,ygX hs];unfold Rn;rfl
 ·rw[yfX hs,yfX hs];exact zxY zo
theorem zi2 {ρ:Nat->Nat}:∀{a b x y:List AV},Rnl ρ a b->Rnl ρ x y->Rnl ρ (a++x) (b++y)
 |[],b,x,y,ha,hx=>by
  unfold Rnl at ha;split at ha
  ·exact hx
  ·exact ha.elim
 |v::a,b,x,y,ha,hx=>by
  unfold Rnl at ha;split at ha
  ·exact(by show Rnl ρ (v::(a++x)) (_::(_++y));unfold Rnl;exact⟨ha.1,zi2 ha.2 hx⟩)
  ·exact ha.elim
theorem Rnl.nil {ρ:Nat->Nat}:Rnl ρ [] []:=by unfold Rnl;trivial
theorem Rnl.cons {ρ:Nat->Nat} {x y:AV} {l l':List AV} (h1:Rn ρ x y) (h2:Rnl ρ l l'):Rnl ρ (x::l) (y::l'):=by unfold Rnl;exact⟨h1,h2⟩
theorem Rn.sc {ρ:Nat->Nat} {v:Value}:Rn ρ (.sc v) (.sc v):=by unfold Rn;rfl
theorem Rn.lst {ρ:Nat->Nat} {sz m:Nat} {f:Nat->List AV}:Rn ρ (.lst sz m f) (.lst sz m f):=by unfold Rn;rfl
theorem zyi {ph:Bool} {i:Nat} {x:Rc} (hi:i<96):Rnl (zdF 20 220 n n0 r) (rcP ph 20 i x) (rcP ph n i x):=by
 unfold rcP;refine Rnl.cons Rn.sc (Rnl.cons Rn.sc (Rnl.cons Rn.sc (Rnl.cons Rn.sc (Rnl.cons Rn.sc (Rnl.cons Rn.sc (Rnl.cons Rn.sc (Rnl.cons Rn.lst (Rnl.cons (zyg hi) (Rnl.cons (zyh hi) Rnl.nil)))))))))
theorem zmL {α:Type} {ρ:Nat->Nat} {f g:Nat->α->List AV} (o:α):∀(l:List α) (i:Nat),(∀j,j<l.length->Rnl ρ (f (i+j) (at_ o l j)) (g (i+j) (at_ o l j)))->Rnl ρ (flatI f i l) (flatI g i l)
 |[],i,_=>Rnl.nil
 |x::l,i,hw=>by
  unfold flatI;refine zi2 (hw 0 (by simp)) (zmL o l (i+1) λj hj=> ?_);have h2:=hw (j+1) (by simpa using hj);have e:i+(j+1)=i+1+j:=zo;rw[e] at h2;exact h2
theorem zaE {ph:Bool} {rs:List Rc} (hn:rs.length<=96):Rnl (zdF 20 220 n n0 r) (flatI (rcP ph 20) 0 rs) (flatI (rcP ph n) 0 rs):=zmL Rc.o rs 0 λj hj=>zyi zo
theorem zbg {p:Rp} {k:Nat} (hk:zdF 20 220 n n0 r 1=k):Rnl (zdF 20 220 n n0 r) (zaC 20 1 p) (zaC n k p):=by
 unfold zaC;refine Rnl.cons Rn.sc (Rnl.cons Rn.lst (Rnl.cons ?_ (Rnl.cons Rn.lst (Rnl.cons Rn.sc (Rnl.cons zye (Rnl.cons zyd Rnl.nil))))));unfold Rn;rw[hk]
end
section
variable {h : T AO} {z : List Nat} {R : Nat -> Option Nat} {a A : Nat} {ρ : Nat -> Nat}
def FR (R:Nat->Option Nat) (a A:Nat):Prop:=∀j,j<200->RS R (fam a j)/\RD R (fam a j)=fam A j
def FN (ρ:Nat->Nat) (a A:Nat):Prop:=∀j,j<200->ρ (fam a j)=fam A j
theorem FR.K {r:List Nat}:FR (zqm r) 0 0:=λj hj=>⟨RS_K hj,RD_K hj⟩
theorem FR.L {A:Nat} {r:List Nat}:FR (zgP A r) 0 A:=λj hj=>⟨RS_L hj,RD_L hj⟩
theorem FR.G {A:Nat} {r:List Nat}:FR (RG A [] r) 20 A:=λj hj=>⟨zlT hj,zsj hj zN⟩
theorem FN.L {A n n0:Nat} {r:List Nat}:FN (zjo A n n0 r) 0 A:=λj hj=>zsF hj
theorem zsx (H:FR R a A) {j n:Nat} (hj:j<200):NmP (RS R) (.so (fam a j) 0 n 0)/\Wv h z (RD R) (.so (fam a j) 0 n 0) (.so (fam A j) 0 n 0):=by
 refine⟨by unfold NmP;exact(H j hj).1,?_⟩;unfold Wv;exact⟨(H j hj).2.symm,rfl,rfl,rfl⟩
theorem zwN (H:FR R a A) {ph:Bool} {i:Nat} {x:Rc} (hi:i<96):NmP (RS R) (seS ph a i x)/\Wv h z (RD R) (seS ph a i x) (seS ph A i x):=by
 unfold seS
 by_cases hs:ph=true∨x.ss=[]
 ·rw[ygX hs,ygX hs];exact zdh rfl
 ·rw[yfX hs,yfX hs];exact zsx H zo
theorem zwQ (H:FR R a A) {i:Nat} {x:Rc} (hi:i<96):NmP (RS R) (seE a i x)/\Wv h z (RD R) (seE a i x) (seE A i x):=by
 unfold seE
 by_cases hs:x.es=[]
 ·rw[ygX hs,ygX hs];exact zdh rfl
 ·rw[yfX hs,yfX hs];exact zsx H zo
theorem zt1 (H:FR R a A) {l:List Fd}:NmP (RS R) (slF a l)/\Wv h z (RD R) (slF a l) (slF A l):=by
 unfold slF
 by_cases hs:l=[]
 ·rw[ygX hs,ygX hs];exact zdh rfl
 ·rw[yfX hs,yfX hs];exact zsx H zo
theorem zwF (H:FR R a A) {l:List Int}:NmP (RS R) (slL a l)/\Wv h z (RD R) (slL a l) (slL A l):=by
 unfold slL
 by_cases hs:l=[]
 ·rw[ygX hs,ygX hs];exact zdh rfl
 ·rw[yfX hs,yfX hs];exact zsx H zo
theorem zit (H:FR R a A) {ph:Bool} {i:Nat} {x:Rc} (hi:i<96):WL h z R (rcP ph a i x) (rcP ph A i x):=by
 unfold rcP
 repeat refine WL.sc rfl ?_
 exact WL.cons (zwN H hi) (WL.cons (zwQ H hi) WL.nil)
theorem zve (H:FR R a A) {ph:Bool} {rs:List Rc} (hn:rs.length<=96):WL h z R (flatI (rcP ph a) 0 rs) (flatI (rcP ph A) 0 rs):=WL.flatI Rc.o rs rs 0 rfl λj hj=>zit H zo
theorem zqu (H:FR R a A) {p:Rp} {k k0:Nat} (hk:RS R k/\RD R k=k0):WL h z R (zaC a k p) (zaC A k0 p):=by
 unfold zaC;refine WL.sc rfl (WL.sc rfl (WL.cons ⟨hk.1,?_⟩ (WL.sc rfl (WL.sc rfl (WL.cons (zt1 H) (WL.cons (zwF H) WL.nil))))));unfold Wv;exact⟨hk.2.symm,rfl,rfl,rfl⟩
theorem zpV (H:FN ρ a A) {j m:Nat} (hj:j<200):Rn ρ (.so (fam a j) 0 m 0) (.so (fam A j) 0 m 0):=by unfold Rn;rw[H j hj]
theorem zwO (H:FN ρ a A) {ph:Bool} {i:Nat} {x:Rc} (hi:i<96):Rn ρ (seS ph a i x) (seS ph A i x):=by
 unfold seS
 by_cases hs:ph=true∨x.ss=[]
 ·rw[ygX hs,ygX hs];unfold Rn;rfl
 ·rw[yfX hs,yfX hs];exact zpV H zo
theorem zwR (H:FN ρ a A) {i:Nat} {x:Rc} (hi:i<96):Rn ρ (seE a i x) (seE A i x):=by
 unfold seE
 by_cases hs:x.es=[]
 ·rw[ygX hs,ygX hs];unfold Rn;rfl
 ·rw[yfX hs,yfX hs];exact zpV H zo
theorem zt5 (H:FN ρ a A) {ph:Bool} {i:Nat} {x:Rc} (hi:i<96):Rnl ρ (rcP ph a i x) (rcP ph A i x):=by
 unfold rcP;exact Rnl.cons Rn.sc (Rnl.cons Rn.sc (Rnl.cons Rn.sc (Rnl.cons Rn.sc (Rnl.cons Rn.sc (Rnl.cons Rn.sc (Rnl.cons Rn.sc (Rnl.cons Rn.lst (Rnl.cons (zwO H hi) (Rnl.cons (zwR H hi) Rnl.nil)))))))))
theorem zcm (H:FN ρ a A) {ph:Bool} {rs:List Rc} (hn:rs.length<=96):Rnl ρ (flatI (rcP ph a) 0 rs) (flatI (rcP ph A) 0 rs):=zmL Rc.o rs 0 λj hj=>zt5 H zo
theorem zpF {c c':List AV} {v:Value} (hc:Rnl ρ c c'):Rn ρ (.tup [.agg c, .sc v]) (.tup [.agg c', .sc v]):=by
 unfold Rn Rnl;refine⟨by unfold Rn;exact hc,?_⟩;unfold Rnl;exact⟨Rn.sc,by unfold Rnl;trivial⟩
theorem zjz (H:FR R a A) {p p':Rp} {k k0:Nat} (hk:RS R k/\RD R k=k0) (hv:p'.v.c=p.v.c/\p'.v.al=p.v.al/\p'.v.rs.length=p.v.rs.length/\p'.v.ds=p.v.ds/\p'.v.mp=p.v.mp) (hf:p'.fd=p.fd/\p'.fl=p.fl):WL h z R (zaC a k p') (zaC A k0 p):=by
 have e:zaC a k p'=zaC a k p:=by unfold zaC;rw[hv.1,hv.2.1,hv.2.2.1,hv.2.2.2.1,hv.2.2.2.2,hf.1,hf.2]
 rw[e];exact zqu H hk
theorem zn1 {ph:Bool} {p q:Rp} {i:Nat} (hl:q.v.rs.length=p.v.rs.length) (hfd:q.fd=p.fd) (hfl:q.fl=p.fl) (hr:∀k,k≠i->at_ Rc.o q.v.rs k=at_ Rc.o p.v.rs k) (hx:(at_ Rc.o q.v.rs i).ss=[]/\(at_ Rc.o q.v.rs i).es=[]) (h96:i<96):∀j o,gP ph q j=some o->gP ph p j=some o:=by
 intro j o ho;by_cases h1:j=2*i
 ·subst h1;rw[zcQ zo,show 2*i/2=i by omega] at ho
  cases hg:q.v.rs[i]? with
  |none=>rw[hg] at ho;cases ho
  |some x=>
   have hi:i<q.v.rs.length:=(y7X.1 hg).1
   have:at_ Rc.o q.v.rs i=x:=by unfold at_;rw[hg];rfl
   rw[hg] at ho;simp only at ho;rw[ygX zo,ygX (.inr (by rw[←this];exact hx.1))] at ho;cases ho
 ·by_cases h2:j=2*i+1
  ·subst h2;rw[zcQ zo,show(2*i+1)/2=i by omega] at ho
   cases hg:q.v.rs[i]? with
   |none=>rw[hg] at ho;cases ho
   |some x=>
    have:at_ Rc.o q.v.rs i=x:=by unfold at_;rw[hg];rfl
    rw[hg] at ho;simp only at ho;rw[yfX zo,ygX (by rw[←this];exact hx.2)] at ho;cases ho
  ·rw[←ztk hl hfd hfl hr h1 h2];exact ho
theorem zyv {ph:Bool} {p q:Rp} (hl:q.v.rs.length=p.v.rs.length) (hfd:q.fd=p.fd) (hfl:q.fl=p.fl) (hr:∀k,(at_ Rc.o q.v.rs k).ss=(at_ Rc.o p.v.rs k).ss/\(at_ Rc.o q.v.rs k).es=(at_ Rc.o p.v.rs k).es):gP ph q=gP ph p:=by
 funext j
 unfold gP;rw[hfd,hfl];by_cases hk:j/2<p.v.rs.length
 ·obtain⟨h1,h2⟩:=hr (j/2);rw[zaS _ _ _ zo,zaS _ _ _ hk] at h1 h2;rw[ysX zo,ysX hk];simp only;rw[h1,h2]
 ·rw[yyX zo,yyX zo]
theorem zc4 {ph:Bool} {p:Rp} {i:Nat} {x:Rc} (hx:x.ss=(at_ Rc.o p.v.rs i).ss/\x.es=(at_ Rc.o p.v.rs i).es):gP ph (p.setR i x)=gP ph p:=by
 refine zyv yoX rfl rfl λk=> ?_;show(at_ Rc.o (p.v.rs.set i x) k).ss=_/\(at_ Rc.o (p.v.rs.set i x) k).es=_;by_cases e:i=k
 ·subst e;by_cases hi:i<p.v.rs.length
  ·rw[zaj _ _ _ _ hi];exact hx
  ·have:p.v.rs.set i x=p.v.rs:=y8Y zo;rw[this];exact⟨rfl,rfl⟩
 ·rw[zap _ _ _ _ _ e];exact⟨rfl,rfl⟩
end
section
variable {h : T AO} {z : List Nat} {R : Nat -> Option Nat} {a A x y : Nat} {r : List Nat} {ph : Bool} {p p' : Rp} {rs : List Rc}
theorem pQ {k:Nat} (h1:RS (RG A [] r) 1) (h2:RD (RG A [] r) 1=k):WOG h z (RG A [] r) (.row (zaC 20 1 p) x y) (.row (zaC A k p) x y):=⟨rfl,rfl,WL.row (zdY ⟨h1,h2⟩ zN)⟩
theorem rQ (hn:rs.length<=96):WOG h z (RG A [] r) (.row (flatI (rcP ph 20) 0 rs) x y) (.row (flatI (rcP ph A) 0 rs) x y):=⟨rfl,rfl,WL.row (zb3 hn zN)⟩
theorem gQ {X:Nat->Prop}:∀j o1,gP ph p j=some o1->X j->gP ph p j=some o1/\zaZ o1:=λj o1 h _=>⟨h,zj9 _ _ j o1 h⟩
theorem pF (H:FR R a A) {k k0:Nat} (hk:RS R k/\RD R k=k0):WOG h z R (.row (zaC a k p) x y) (.row (zaC A k0 p) x y):=⟨rfl,rfl,WL.row (zqu H hk)⟩
theorem rF (H:FR R a A) (hn:rs.length<=96):WOG h z R (.row (flatI (rcP ph a) 0 rs) x y) (.row (flatI (rcP ph A) 0 rs) x y):=⟨rfl,rfl,WL.row (zve H hn)⟩
theorem bR {l:List Bool}:WOG h z R (.row (l.map bb) x y) (.row (l.map bb) x y):=⟨rfl,rfl, .same rfl (y4X (enc:=bb) (λ_=>rfl) _)⟩
theorem cG {P:Program} {A B N:Nat} {f:FuncId} {args0 args:List AV} {t:T AO} {K:KC} (hc:HG P 2 20 220 f args0 (gP ph p) [.row (zaC 20 1 p) 106 0, .row (flatI (rcP ph 20) 0 p.v.rs) 66 10] (.tup []) (gP ph p') [.row (zaC 20 1 p') 106 0, .row (flatI (rcP ph 20) 0 p'.v.rs) 66 10])
  (h4:p.v.rs.length<=96) (h5:p'.v.rs.length<=96) (hk:(ztZ 20 220 2 [0,1] (gP ph p') [.row (zaC N 1 p') 106 0, .row (flatI (rcP ph N) 0 p'.v.rs) 66 10] ⟨.f A B (gP ph p) t,N⟩).nfK λs=>K (.tup []) s)
  (hrows:p.v.rs.length<=96->zcL (.f A B (gP ph p) t) [] (zbQ 20 220 A [] [0,1]) [.row (zaC 20 1 p) 106 0, .row (flatI (rcP ph 20) 0 p.v.rs) 66 10] [0,1]:=by exact λh=>⟨Ck.pF Ck.FR.G ⟨rfl,rfl⟩,Ck.rF Ck.FR.G h,zT⟩)
  (hargs:zgy (RS (zbQ 20 220 A [] [0,1])) args0/\Wvl (.f A B (gP ph p) t) [] (RD (zbQ 20 220 A [] [0,1])) args0 args:=by(repeat'(first
   |exact zT
   |exact rfl
   |(intro _ _;exact rfl)
   |refine zA ?_ ?_))) (hL:okL 20 220 2 A B N [0,1] 2=true:=by rfl):KCall P f args ⟨.f A B (gP ph p) t,N⟩ K:=
 ySZ [0,1] (.tup []) [.row (zaC N 1 p') 106 0, .row (flatI (rcP ph N) 0 p'.v.rs) 66 10] hc hL (zj9 _ _) (zj9 _ _) (hrows h4) hargs ⟨by unfold Rn Rnl;trivial,rfl,⟨rfl,rfl, .inl (zbg rfl)⟩,⟨rfl,rfl, .inl (zaE h5)⟩,zT⟩ hk
end
end Ck
abbrev ywX:=@Ck.WL.cons
abbrev yzX:=@Ck.WL.row
abbrev yMX:=@Ck.WL.nil
abbrev yOX:=@Ck.Rnl.cons
abbrev yQX:=@Ck.zj9
abbrev yUZ:=@Ck.zj9
namespace Go.Proofs.YtgcjejajljhnaaaGreatDoor
open Go.Ex Ck
set_option maxRecDepth 100000
set_option maxHeartbeats 4000000
theorem zdb (ph:Bool) (p:Rp) (k r i:Int) (hn:p.v.rs.length<=96) (hl:p.fl.length=p.fd.length) (hb:p.fd.length<=1000000):HG Tryz.prog 2 20 220 144 [.ptr 0 0,ib k,ib r,ib i] (gP ph p) [.row (zaC 20 1 p) 106 0, .row (flatI (rcP ph 20) 0 p.v.rs) 66 10] (.tup [])
  (gP ph (p.note k r i)) [.row (zaC 20 1 (p.note k r i)) 106 0, .row (flatI (rcP ph 20) 0 p.v.rs) 66 10]:=by
 refine HG.of zal zo ?_
 by_cases h0:p.fd=[]
 ·have hl0:p.fl=[]:=yeX (by rw[hl,h0];rfl)
  have e1:slF 20 p.fd= .sc (.slice none 0 0):=by rw[h0];rfl
  have e2:slL 20 p.fl= .sc (.slice none 0 0):=by rw[hl0];rfl
  (conv=>whnf);repeat(first|refine Ex.g ?_|rw[e1]|rw[e2]);conv=>whnf
  refine⟨?_⟩;refine yCX [0,1] [] [(192,221),(193,223)] rfl rfl rfl rfl ?_ ?_ ?_ ?_
  ·refine⟨⟨rfl,rfl,yzX (WL.sc rfl (WL.sc rfl (ywX (zgl ⟨rfl,rfl⟩) (WL.sc rfl (WL.sc rfl (ywX (znk (by rw[h0];rfl)) (ywX (zp3 (by rw[hl0];rfl)) yMX)))))))⟩,⟨rfl,rfl,yzX (zb3 hn (by simp))⟩,zT⟩
  ·exact znK (λj h1 h2=>rfl)
  ·exact note_ov rfl (by rw[h0];rfl) rfl (by rw[hl0];rfl)
  ·exact⟨⟨trivial,zT⟩,zT⟩
 ·have hl0:p.fl≠[]:=λe=>h0 (yeX (by rw[←hl,e];rfl));have e1:slF 20 p.fd= .so (fam 20 192) 0 p.fd.length 0:=zgm h0;have e2:slL 20 p.fl= .so (fam 20 193) 0 p.fl.length 0:=zkR hl0
  have hb1:(p.fd.length+1)*24<=2^47/\p.fd.length+1<=2^60:=by constructor<;>omega
  have hb2:(p.fl.length+1)*8<=2^47/\p.fl.length+1<=2^60:=by constructor<;>omega
  (conv=>whnf);repeat(first|refine Need.mk ?_ ?_;(focus(first|exact hb1|exact hb2|exact zn6 _|exact zun _))|rw[e1]|rw[e2]|refine RK.of (zel ((zah zo).trans (zj8 h0))) ?_|refine RK.of (zel ((zah zo).trans ((zbm zo).trans (zrh hl0)))) ?_|rw[zbT (j:=192) (show 192<220-20 by omega)]|rw[zbT (j:=193) (show 193<220-20 by omega)]|refine Ex.g ?_);conv=>whnf
  refine⟨?_⟩;refine yCX [0,1] [] [(192,221),(193,223)] rfl rfl rfl rfl ?_ ?_ ?_ ?_
  ·refine⟨⟨rfl,rfl,yzX (WL.sc rfl (WL.sc rfl (ywX (zgl ⟨rfl,rfl⟩) (WL.sc rfl (WL.sc rfl (ywX (znk rfl) (ywX (zp3 rfl) yMX)))))))⟩,⟨rfl,rfl,yzX (zb3 hn (by simp))⟩,zT⟩
  ·exact znK (λj h1 h2=>(zbm h2).trans (zbm h1))
  ·exact note_ov rfl rfl rfl rfl
  ·exact⟨⟨trivial,zT⟩,zT⟩
end Go.Proofs.YtgcjejajljhnaaaGreatDoor
namespace Ck
theorem za4 {S:Type} {f:S->Nat->S} {I:S->Prop} (hf:∀s k,I s->I (f s k)) {s:S} (h:I s):∀k,I (it f s k)
 |0=>h
 |k+1=>hf _ _ (za4 hf h k)
theorem zbo {S:Type} {f:S->Nat->S} {I:Nat->S->Prop} {n:Nat} (hf:∀s k,k<n->I k s->I (k+1) (f s k)) {s:S} (h:I 0 s):∀k,k<=n->I k (it f s k)
 |0,_=>h
 |k+1,hk=>hf _ _ hk (zbo hf h k zo)
theorem zb0 {α:Type} (o:α) (l:List α) (i j:Nat) (x:α):at_ o (l.set i x) j=if i=j/\j<l.length then x else at_ o l j:=by
 by_cases h:i=j
 ·subst h;by_cases h2:i<l.length
  ·rw[ygX ⟨rfl,h2⟩,zaj o l i x h2]
  ·rw[yfX zo];unfold at_;rw[yyX (by simp;omega),yyX zo]
 ·rw[yfX zo,zap o l i j x h]
theorem zwe {α:Type} (o:α) (l:List α) (i:Nat) (h:l.length<=i):at_ o l i=o:=by unfold at_;rw[yyX h];rfl
theorem mem_set {α:Type} {l:List α} {i:Nat} {x y:α} (h:y∈l.set i x):y∈l∨y=x:=by
 rcases yoZ h with h|h
 ·exact .inl h
 ·exact .inr h
def ixL {α:Type} (p:α->Bool):List α->Nat->Int
 |[],_=> -1
 |x::l,i=>if p x then i else ixL p l (i+1)
theorem zds {α:Type} (p:α->Bool):∀(l:List α) (i:Nat),decide (0<=ixL p l i)=l.any p
 |[],i=>by simp[ixL]
 |x::l,i=>by
  unfold ixL;by_cases h:p x=true
  ·rw[ygX h];simp[h]
  ·rw[yfX h,zds p l (i+1)];simp[h]
theorem zui {α:Type} (p:α->Bool):∀(l:List α) (i:Nat),-1<=ixL p l i/\ixL p l i<i+l.length
 |[],i=>by simp[ixL];omega
 |x::l,i=>by
  unfold ixL;have:=zui p l (i+1);rw[yGX];split<;>omega
structure Rf (n:Nat) (p:Rp):Prop where
 n:p.v.rs.length=n
 fl:p.fl.length=p.fd.length
 q:∀x∈p.v.rs,1<=x.q/\x.q<=65535
theorem Rf.note {n:Nat} {p:Rp} (h:Rf n p) (k r i:Int):Rf n (p.note k r i):=⟨h.n,by unfold Rp.note;simp[h.fl],h.q⟩
theorem Rf.setR {n:Nat} {p:Rp} (h:Rf n p) (i:Nat) (x:Rc) (hx:1<=x.q/\x.q<=65535):Rf n (p.setR i x):=⟨by unfold Rp.setR;simp[h.n],h.fl,λy hy=>by
 rcases mem_set hy with hy|rfl
 ·exact h.q y hy
 ·exact hx⟩
theorem Rf.at {n:Nat} {p:Rp} (h:Rf n p) {i:Nat} (hi:i<n):1<=(at_ Rc.o p.v.rs i).q/\(at_ Rc.o p.v.rs i).q<=65535:=h.q _ (at_mem Rc.o p.v.rs i (by rw[h.n];exact hi))
theorem zca (p:Rp) (k r i:Int):(p.note k r i).fd.length=p.fd.length+1:=by unfold Rp.note;simp
theorem zae (p:Rp) (i:Nat):p.rc i=at_ Rc.o p.v.rs i:=by unfold Rp.rc rc;rw[yrX]
theorem zjP {n:Nat} {p:Rp} (h:Rf n p):∀k,k<=n->Rf n (it zar p k)/\(it zar p k).fd.length<=p.fd.length+k/\∀j,k<=j->at_ Rc.o (it zar p k).v.rs j=at_ Rc.o p.v.rs j:=
 zbo (I:=λk q=>Rf n q/\q.fd.length<=p.fd.length+k/\∀j,k<=j->at_ Rc.o q.v.rs j=at_ Rc.o p.v.rs j) (λs k hk ⟨h1,h2,h3⟩=>by
  unfold zar;simp only[zae];split
  ·refine⟨(h1.note 0 k 0).setR k _ (by have:=h1.at hk;dsimp only;omega),?_,λj hj=> ?_⟩
   ·have:=zca s 0 k 0;show(s.note 0 k 0).fd.length<=_;omega
   ·show at_ Rc.o (s.v.rs.set k _) j=_;rw[zap _ _ _ _ _ zo];exact h3 j zo
  ·exact⟨h1,zo,λj hj=>h3 j zo⟩) ⟨h,zo,λ_ _=>rfl⟩
theorem zkl {n:Nat} {p:Rp} (h:Rf n p):∀k,k<=n->Rf n (it zas p k)/\(it zas p k).fd.length<=p.fd.length+k/\(∀j,k<=j->at_ Rc.o (it zas p k).v.rs j=at_ Rc.o p.v.rs j)/\(it zas p k).v.ds=p.v.ds:=
 zbo (I:=λk q=>Rf n q/\q.fd.length<=p.fd.length+k/\(∀j,k<=j->at_ Rc.o q.v.rs j=at_ Rc.o p.v.rs j)/\q.v.ds=p.v.ds) (λs k hk ⟨h1,h2,h3,h4⟩=>by
  unfold zas;simp only[zae];split
  ·refine⟨(h1.note 2 k 0).setR k _ (h1.at hk),?_,λj hj=> ?_,h4⟩
   ·have:=zca s 2 k 0;show(s.note 2 k 0).fd.length<=_;omega
   ·show at_ Rc.o (s.v.rs.set k _) j=_;rw[zap _ _ _ _ _ zo];exact h3 j zo
  ·exact⟨h1,zo,λj hj=>h3 j zo,h4⟩) ⟨h,zo,λ_ _=>rfl,rfl⟩
theorem zfK {α:Type} {o:α} {l:List α} {P:α->Prop} (ho:P o) (h:∀x∈l,P x) (i:Nat):P (at_ o l i):=by
 by_cases hi:i<l.length
 ·exact h _ (at_mem o l i hi)
 ·rw[zwe o l i zo];exact ho
theorem ns_at {l:List Rc} (h:∀x∈l,x.ns.length<=100000) (i:Nat):(at_ Rc.o l i).ns.length<=100000:=zfK (P:=λx:Rc=>x.ns.length<=100000) (by decide) h i
def NsOk (p:Rp):Prop:=∀x∈p.v.rs,x.ns.length<=100000
theorem NsOk.setR {p:Rp} (h:NsOk p) (i:Nat) (x:Rc) (hx:x.ns.length<=100000):NsOk (p.setR i x):=λy hy=>by
 rcases mem_set hy with hy|rfl
 ·exact h y hy
 ·exact hx
theorem zjS {n:Nat} {p:Rp} (h:Rf n p) (hns:NsOk p):∀j,j<=n-16->(λj q=>Rf n q/\q.fd.length<=p.fd.length+j/\NsOk q) j (it (λq j=>if own (q.rc (16+j:Nat)) then zb2 q (16+j) else q) p j):=
 zbo (I:=λj q=>Rf n q/\q.fd.length<=p.fd.length+j/\NsOk q) (n:=n-16) (λs k hk ⟨h1,h2,h3⟩=>by
  split
  ·unfold zb2;simp only[zae];split
   ·refine⟨(h1.note 8 _ 0).setR _ _ (h1.at zo),?_,NsOk.setR (p:=s.note 8 _ 0) h3 _ _ (ns_at h3 _)⟩;have:=zca s 8 ((16+k:Nat):Int) 0;show(s.note 8 ((16+k:Nat):Int) 0).fd.length<=_;omega
   ·exact⟨h1,zo,h3⟩
  ·exact⟨h1,zo,h3⟩) ⟨h,zo,hns⟩
structure Rg (n:Nat) (p:Rp):Prop where
 rf:Rf n p
 se:∀x∈p.v.rs,x.ss.length<=100000/\x.es.length<=1000
theorem Rg.setR {n:Nat} {p:Rp} (h:Rg n p) (i:Nat) (x:Rc) (hx:1<=x.q/\x.q<=65535) (hs:x.ss.length<=100000/\x.es.length<=1000):Rg n (p.setR i x):=⟨h.rf.setR i x hx,λy hy=>by
 rcases mem_set hy with hy|rfl
 ·exact h.se y hy
 ·exact hs⟩
theorem Rg.note {n:Nat} {p:Rp} (h:Rg n p) (k r i:Int):Rg n (p.note k r i):=⟨h.rf.note k r i,h.se⟩
theorem Rg.at {n:Nat} {p:Rp} (h:Rg n p) {i:Nat} (hi:i<n):(at_ Rc.o p.v.rs i).ss.length<=100000/\(at_ Rc.o p.v.rs i).es.length<=1000:=h.se _ (at_mem Rc.o p.v.rs i (by rw[h.rf.n];exact hi))
theorem zjd {n i:Nat} {p:Rp} (h:Rg n p) (hi:i<n):∀k,Rg n (it (zak i) p k)/\(it (zak i) p k).fd.length<=p.fd.length+k/\(at_ Rc.o (it (zak i) p k).v.rs i).es.length=(at_ Rc.o p.v.rs i).es.length
 |0=>⟨h,by show p.fd.length<=_;omega,rfl⟩
 |k+1=>by
  obtain⟨h1,h2,h3⟩:=zjd h hi k;have e:it (zak i) p (k+1)=zak i (it (zak i) p k) k:=rfl;rw[e]
  generalize it (zak i) p k=q at*
  have key:Rg n (zak i q k)/\(zak i q k).fd.length<=q.fd.length+1/\(at_ Rc.o (zak i q k).v.rs i).es.length=(at_ Rc.o q.v.rs i).es.length:=by
   unfold zak;simp only[zae];split
   ·refine⟨(h1.note 9 i k).setR i _ (h1.rf.at hi) ⟨(h1.at hi).1,by rw[yoX];exact(h1.at hi).2⟩,?_,?_⟩
    ·have:=zca q 9 i k;show(q.note 9 i k).fd.length<=_;omega
    ·show(at_ Rc.o (q.v.rs.set i _) i).es.length=_;rw[zaj _ _ _ _ (by rw[h1.rf.n];exact hi)];exact yoX
   ·exact⟨h1,zo,rfl⟩
  exact⟨key.1,by have:=key.2.1;omega,key.2.2.trans h3⟩
theorem ze8 {n B:Nat} {p:Rp} (hB:B=1000) (h:Rg n p):∀k,k<=n->Rg n (it zai p k)/\(it zai p k).fd.length<=p.fd.length+k*B
 |0,_=>⟨h,by show p.fd.length<=_;omega⟩
 |k+1,hk=>by
  obtain⟨h1,h2⟩:=ze8 hB h k zo;have e:it zai p (k+1)=zai (it zai p k) k:=rfl;rw[e]
  generalize it zai p k=q at*
  have hm:(k+1)*B=k*B+B:=by rw[yZX,yuZ]
  unfold zai;simp only[zae];split
  ·obtain⟨h3,h4,_⟩:=zjd h1 (show k<n by omega) (at_ Rc.o q.v.rs k).es.length;have h5:=(h1.at (show k<n by omega)).2;exact⟨h3,zo⟩
  ·exact⟨h1,zo⟩
end Ck
namespace Ck
open Go Go.Ex
noncomputable def rgC (ph:Bool) (A:Nat) (v:Pt) (r:Ref):List AV:=if wi r.r 0 (v.rs.length-1)=true then rcP ph A r.r.toNat (at_ Rc.o v.rs r.r.toNat) else [bb false,ib 0,ib 0,ib 0,ib 0,ib 0,ib 0, .sc (.slice none 0 0), .sc (.slice none 0 0), .sc (.slice none 0 0)]
theorem zvb {ρ:Nat->Nat} {a A:Nat} (H:FN ρ a A) {ph:Bool} {v:Pt} {q:Ref} (hn:v.rs.length<=96):Rnl ρ (rgC ph a v q) (rgC ph A v q):=by
 unfold rgC;by_cases hw:wi q.r 0 (v.rs.length-1)=true
 ·have h2:0<=q.r/\q.r<v.rs.length:=by simp[wi] at hw;omega
  rw[ygX hw,ygX hw];exact zt5 H zo
 ·rw[yfX hw,yfX hw]
  repeat(first|exact Rnl.nil|refine yOX Rn.sc ?_)
theorem zmh (ph:Bool) (A:Nat) (v:Pt) (q:Ref):∀y∈rgC ph A v q,zgW y=true:=by
 unfold rgC;by_cases hw:wi q.r 0 (v.rs.length-1)=true
 ·rw[ygX hw];exact zjr _ _ _ _
 ·rw[yfX hw];intro y hy;simp only[yAX,List.not_mem_nil,or_false] at hy
  rcases hy with rfl|rfl|rfl|rfl|rfl|rfl|rfl|rfl|rfl|rfl<;>rfl
theorem zmi (ph:Bool) (A:Nat) (v:Pt) (q:Ref):(rgC ph A v q).length=10:=by
 unfold rgC;split<;>rfl
theorem zeh {P:Program} {s:St} {K:KC} {T:TypeId} {b off n:Nat} {c c':List AV} {e:TypeId} {q:Nat} (hoff:off=0) (hT:tyS P T= .ok (true,n)) (hl:c'.length=n) (h1:∀y∈c',zgW y=true) (hr:s.h.get b=some (.row c e q)) (hc:c.length=n) (hk:(s.set b (.row c' e q)).nfK λs=>K AV.undef s):zdQ (zcY P s T (.ptr b off) (.agg c')) K:=by
 subst hoff;exact zdP (zdR rfl hT hl h1 hr zo (by rw[List.take_zero,yAY,ylX,←hc,y9X,yKX];rfl)) hk
def zC (q:Int):List AV:=[bb false,ib q,ib 0,ib 0,ib 0,ib 0,ib 0, .sc (.slice none 0 0), .sc (.slice none 0 0), .sc (.slice none 0 0)]
theorem zyN {h:T AO} {z:List Nat} {R:Nat->Option Nat} {ph:Bool} {a i:Nat} {q:Int}:WL h z R (rcP ph a i {Rc.o with q:=q}) (zC q):=by
 unfold rcP;rw[zir (.inr rfl),zbM rfl];exact WL.sc rfl (WL.sc rfl (WL.sc rfl (WL.sc rfl (WL.sc rfl (WL.sc rfl (WL.sc rfl (ywX ⟨trivial,Wv.nil rfl⟩ (ywX ⟨trivial,Wv.nil rfl⟩ (ywX ⟨trivial,Wv.nil rfl⟩ yMX)))))))))
end Ck
namespace Go.Proofs.YtgcjejajljhnaaaGreatDoor
open Go.Ex Ck
set_option maxRecDepth 100000
set_option maxHeartbeats 4000000
theorem zhO (x:Rc):PureC Tryz.prog 61 [.agg [bb x.u, .any,ib x.k, .any, .any, .any, .any, .any, .any, .any]] (bb (Ck.own x)):=by
 refine ytX zal rfl ?_
 conv=>whnf
 unfold Ck.own;cases hu:x.u
 all_goals
  refine Ex.go ?_;refine .z [] ?_;(conv=>whnf);rfl
theorem zmD (x:Rc):PureC Tryz.prog 102 [.agg [bb x.u, .any,ib x.k, .any, .any, .any, .any, .any, .any, .any]] (bb (Ck.dir x)):=by
 refine ytX zal rfl ?_
 conv=>whnf
 unfold Ck.dir;cases hu:x.u
 all_goals
  refine Ex.go ?_;refine .z [] ?_;(conv=>whnf);rfl
theorem zgq {h:T AO} {z:List Nat} {ph:Bool} {A i:Nat} {x:Rc}:Wzl h z [.agg [bb x.u, .any,ib x.k, .any, .any, .any, .any, .any, .any, .any]] [.agg (rcP ph A i x)]:=
 Wzc (by unfold Wz;exact Wzc (ydX rfl) (Wzc Wza (Wzc (ydX rfl) (Wzc Wza (Wzc Wza (Wzc Wza (Wzc Wza (Wzc Wza (Wzc Wza (Wzc Wza Wzn)))))))))) Wzn
theorem zva (n:Nat) (ph:Bool) (p:Rp) (r:Ref) (hn:p.v.rs.length=n) (h96:n<=96):HK Tryz.prog 1 101 [.agg [ib p.v.c,LS 2 zaP Run.o p.v.al, .so 200 0 n 0,LS 1 aI 0 p.v.ds,tb p.v.mp], .agg (ze1 r)] (gP ph p) [.row (flatI (rcP ph 0) 0 p.v.rs) 66 10]
  (.tup [.agg (rgC ph 0 p.v r),bb (Ck.right p.v r)]) (gP ph p) [.row (flatI (rcP ph 0) 0 p.v.rs) 66 10]:=by
 refine HK.of zal zo ?_;have hn96:p.v.rs.length<=96:=zo;have hrc:Ck.rc p.v r.r=at_ Rc.o p.v.rs r.r.toNat:=rfl;by_cases h:wi r.r 0 (p.v.rs.length-1)=true
 ·have h2:0<=r.r/\r.r<n:=by simp[wi] at h;omega
  have hw:wi r.r 0 (n-1)=true:=by rw[←hn];exact h
  have hlt:r.r.toNat<p.v.rs.length:=zo
  have hsp:Small (n-1):=⟨zo,zo⟩
  have hres:Ck.right p.v r=(Ck.own (at_ Rc.o p.v.rs r.r.toNat)&&decide ((at_ Rc.o p.v.rs r.r.toNat).q=r.q)):=by unfold Ck.right;rw[h,hrc];simp;rfl
  have hcs:rgC ph 0 p.v r=rcP ph 0 r.r.toNat (at_ Rc.o p.v.rs r.r.toNat):=ygX h;rw[hres,hcs]
  obtain⟨ob,hob⟩:∃b,Ck.own (at_ Rc.o p.v.rs r.r.toNat)=b:=⟨_,rfl⟩
  have hown:=zhO (at_ Rc.o p.v.rs r.r.toNat);rw[hob] at hown⊢
  (conv=>whnf);repeat(first|refine yaX (za6 _ _ _) ?_|refine Need.mk ?_ ?_;(focus(first|exact hsp|exact h2))|refine KIf.f (by rw[hw];rfl) ?_|refine RK.of (zch (zab ph 0) Rc.o (ylX _) rfl rfl hlt rfl) ?_|refine zeh rfl rfl rfl (zjr _ _ _ _) rfl rfl ?_|refine yRY ([]) (hown) (zgq) ?_|refine Ex.g ?_);conv=>whnf
  cases ob
  all_goals
   (conv=>whnf);repeat(first|refine Need.mk ?_ ?_;exact rfl|refine zeh (c':=rcP ph 0 r.r.toNat (at_ Rc.o p.v.rs r.r.toNat)) rfl rfl rfl (zjr _ _ _ _) rfl rfl ?_|refine Ex.g ?_);conv=>whnf
   refine⟨?_⟩;refine y7Y [200] [] rfl rfl rfl rfl ?_ ?_ ?_
   ·exact⟨rF FR.K hn96,zT⟩
   ·exact(λj o1 h=>⟨h,yQX _ _ j o1 h⟩)
   ·exact⟨ztX (zit FR.K zo),zT⟩
 ·have h2:wi r.r 0 (n-1)=false:=by rw[←hn];simpa using h
  have hsp:Small (n-1):=⟨zo,zo⟩
  (conv=>whnf);repeat(first|refine yaX (za6 _ _ _) ?_|refine Need.mk ?_ ?_;exact hsp|refine KIf.t (by rw[h2];rfl) ?_);conv=>whnf
  have hres:Ck.right p.v r=false:=by unfold Ck.right;rw[hn,h2];rfl
  have hcs:rgC ph 0 p.v r=[bb false,ib 0,ib 0,ib 0,ib 0,ib 0,ib 0, .sc (.slice none 0 0), .sc (.slice none 0 0), .sc (.slice none 0 0)]:=yfX h;rw[hres,hcs];refine⟨?_⟩;refine y7Y [200] [] rfl rfl rfl rfl ?_ ?_ ?_
  ·exact⟨rF FR.K hn96,zT⟩
  ·exact(λj o1 h=>⟨h,yQX _ _ j o1 h⟩)
  ·exact⟨ztX (by repeat first|exact yMX|refine WL.sc rfl ?_),zT⟩
theorem zjm {n:Nat} (ph:Bool) (p:Rp) (r:Ref) {b:Bool} (hb:Ck.right p.v r=b) (hn:p.v.rs.length=n/\n<=96):HK Tryz.prog 1 101 [.agg [ib p.v.c,LS 2 zaP Run.o p.v.al, .so 200 0 n 0,LS 1 aI 0 p.v.ds,tb p.v.mp], .agg (ze1 r)] (gP ph p) [.row (flatI (rcP ph 0) 0 p.v.rs) 66 10]
  (.tup [.agg (rgC ph 0 p.v r),bb b]) (gP ph p) [.row (flatI (rcP ph 0) 0 p.v.rs) 66 10]:=by
 rw[←hb];exact zva n ph p r hn.1 hn.2
theorem zxf (n:Nat) (ph:Bool) (p:Rp) (hf:Rf n p) (hn:n<=96) (hb:p.fd.length<=100000):HG Tryz.prog 2 20 220 104 [.ptr 0 0] (gP ph p) [.row (zaC 20 1 p) 106 0, .row (flatI (rcP ph 20) 0 p.v.rs) 66 10] (.tup [])
  (gP ph (zax p)) [.row (zaC 20 1 (zax p)) 106 0, .row (flatI (rcP ph 20) 0 (zax p).v.rs) 66 10]:=by
 have hpn:p.v.rs.length=n:=hf.n;have h96:p.v.rs.length<=96:=zo;subst hpn;refine HG.of zal zo ?_;refine Ex.go ?_;refine Ex.wl p.v.rs.length (λd=>zag [(0, .ptr 0 0),(10, .so 1 0 p.v.rs.length 0),(11,ib p.v.rs.length),(12,ib d)] 54) (λd=>zaw 20 220 (gP ph (it zar p d)) [.row (zaC 20 1 (it zar p d)) 106 0, .row (flatI (rcP ph 20) 0 (it zar p d).v.rs) 66 10]) ?_ ?_
 ·refine yCX [0,1] [] [] rfl rfl rfl rfl ?_ ?_ ?_ ?_
  ·exact⟨pQ rfl rfl,rQ h96,zT⟩
  ·exact gQ
  ·exact zN
  ·(repeat' first|exact zT|exact rfl|refine zA ?_ ?_)
 ·intro d hd;obtain⟨h1,h2,h3⟩:=zjP hf d hd;have hst:it zar p (d+1)=zar (it zar p d) d:=rfl
  have hfin:d=p.v.rs.length->it zar p d=zax p:=λe=>by rw[e];rfl
  generalize it zar p d=q at*
  have hqn:q.v.rs.length=p.v.rs.length:=h1.n;have hq96:q.v.rs.length<=96:=zo;refine Ex.go ?_;refine yPX (λh=> ?_) (λh=> ?_)
  ·have hltq:d<q.v.rs.length:=zo
   have hoff:0+((d:Nat):Int).toNat*10=d*10:=by simp
   obtain⟨b,hb2⟩:∃b,Ck.right q.v (at_ Rc.o q.v.rs d).b=b:=⟨_,rfl⟩
   (conv=>whnf);repeat(first|refine RK.of (zch (zab ph 20) Rc.o hoff rfl rfl hltq rfl) ?_|refine zct rfl rfl rfl rfl ?_|refine DCall.lK [1] (.tup [.agg (rgC ph 20 q.v (at_ Rc.o q.v.rs d).b),bb b]) [.row (flatI (rcP ph 20) 0 q.v.rs) 66 10] (zjm ph q (at_ Rc.o q.v.rs d).b hb2 ⟨rfl,hq96⟩) (⟨rF FR.L hq96,zT⟩) (⟨⟨rfl,rfl, .inl (zcm FN.L hq96)⟩,zT⟩) ?_ (hargs:=by((repeat' first|exact zT|exact rfl|(intro _ _;exact rfl)|refine zA ?_ ?_))) (h1:=zpF (zvb FN.L hq96))|refine zeh (c':=rgC ph 20 q.v (at_ Rc.o q.v.rs d).b) rfl rfl (zmi _ _ _ _) (zmh _ _ _ _) rfl rfl ?_|refine Ex.g ?_);conv=>whnf
   have hls:zar q d=if(at_ Rc.o q.v.rs d).u&&(at_ Rc.o q.v.rs d).k==3&& !b then(q.note 0 d 0).setR d {Rc.o with q:=(at_ Rc.o q.v.rs d).q%65535+1} else q:=by unfold zar;simp only[zae];rw[hb2]
   obtain⟨u,hu⟩:∃u,(at_ Rc.o q.v.rs d).u=u:=⟨_,rfl⟩
   rw[hu] at hls
   have stay:∀{t:Tm} {s:St} {q':Ck.Rp},zar q d=q'->Weak 2 t s (zag [(0, .ptr 0 0),(10, .so 1 0 p.v.rs.length 0),(11,ib p.v.rs.length),(12,ib (d+1:Nat))] 54) (zaw 20 220 (gP ph q') [.row (zaC 20 1 q') 106 0, .row (flatI (rcP ph 20) 0 q'.v.rs) 66 10])->
     Weak 2 t s (zag [(0, .ptr 0 0),(10, .so 1 0 p.v.rs.length 0),(11,ib p.v.rs.length),(12,ib (d+1:Nat))] 54) (zaw 20 220 (gP ph (it zar p (d+1))) [.row (zaC 20 1 (it zar p (d+1))) 106 0, .row (flatI (rcP ph 20) 0 (it zar p (d+1)).v.rs) 66 10]):=λhe hw=>by rw[hst,he];exact hw
   cases u
   ·(conv=>whnf);repeat(first|refine KIf.f hu ?_|refine Ex.g ?_);conv=>whnf
    refine⟨d+1,zo,by dsimp only;omega,stay hls ?_⟩
    (exact Ex.wG [0,1] [] [] (⟨pQ rfl rfl,rQ hq96,zT⟩))
   ·by_cases hk:(at_ Rc.o q.v.rs d).k=3
    ·cases b
     ·have hls2:zar q d=(q.note 0 d 0).setR d {Rc.o with q:=(at_ Rc.o q.v.rs d).q%65535+1}:=by rw[hls,hk];rfl
      have hxq:=h1.at (show d<p.v.rs.length by omega);have htm:(at_ Rc.o q.v.rs d).q.tmod 65535=(at_ Rc.o q.v.rs d).q%65535:=ymY zo
      have hsm:Small ((at_ Rc.o q.v.rs d).q.tmod 65535+1):=by rw[htm];exact⟨zo,zo⟩
      have hoff2:0+((d:Nat):Int).toNat*10=d*10+0:=by simp
      have hd0:(0:Int)<=(d:Nat)/\((d:Nat):Int)<((q.note 0 d 0).v.rs.length:Nat):=⟨zo,by show((d:Nat):Int)<(q.v.rs.length:Nat);omega⟩
      (conv=>whnf);repeat(first|refine Need.mk ?_ ?_;(focus(first|exact hsm|exact hd0))|refine KIf.t hu ?_|refine KIf.t (ybX hk) ?_|refine Ck.cG (p':=(q.note 0 d 0)) (zdb ph q 0 d 0 hq96 h1.fl zo) hq96 hq96 ?_|refine zaV (zab ph 241) Rc.o (zC ((at_ Rc.o q.v.rs d).q.tmod 65535+1)) (zC ((at_ Rc.o q.v.rs d).q.tmod 65535+1)) hoff2 rfl rfl rfl rfl rfl rfl hltq (by decide) rfl ?_|refine Ex.g ?_);conv=>whnf
      rw[htm];refine⟨d+1,zo,by dsimp only;omega,stay hls2 ?_⟩;refine yCX [0,1] [] [] rfl rfl rfl rfl ?_ ?_ ?_ ?_
      ·refine⟨⟨rfl,rfl,yzX (zjz (p:=q.note 0 d 0) FR.G ⟨rfl,rfl⟩ ⟨rfl,rfl,yoX,rfl,rfl⟩ ⟨rfl,rfl⟩)⟩,⟨rfl,rfl,yzX (zaI (i:=d) hq96 yoX (λk hk=>zap _ _ _ _ _ (Ne.symm hk)) zN ?_)⟩,zT⟩;show WL _ _ _ (rcP ph 20 d (at_ Rc.o (q.v.rs.set d _) d)) _;rw[zaj _ _ _ _ hltq];exact zyN
      ·refine λj o1 h _=>⟨zn1 (i:=d) (p:=q.note 0 d 0) (q:=(q.note 0 d 0).setR d {Rc.o with q:=(at_ Rc.o q.v.rs d).q%65535+1}) yoX rfl rfl (λk hk=>zap _ _ _ _ _ (Ne.symm hk)) ?_ zo j o1 h,yQX _ _ j o1 h⟩
       show(at_ Rc.o (q.v.rs.set d _) d).ss=[]/\(at_ Rc.o (q.v.rs.set d _) d).es=[]
       rw[zaj _ _ _ _ hltq];exact⟨rfl,rfl⟩
      ·exact zN
      ·(repeat' first|exact zT|exact rfl|refine zA ?_ ?_)
     ·(conv=>whnf);repeat(first|refine KIf.t hu ?_|refine KIf.t (ybX hk) ?_|refine Ex.g ?_);conv=>whnf
      refine⟨d+1,zo,by dsimp only;omega,stay (q':=q) (by rw[hls];simp) ?_⟩
      (exact Ex.wG [0,1] [] [] (⟨pQ rfl rfl,rQ hq96,zT⟩))
    ·(conv=>whnf);repeat(first|refine KIf.t hu ?_|refine KIf.f (ycX hk) ?_|refine Ex.g ?_);conv=>whnf
     refine⟨d+1,zo,by dsimp only;omega,stay (q':=q) (by rw[hls];simp[hk]) ?_⟩
     (exact Ex.wG [0,1] [] [] (⟨pQ rfl rfl,rQ hq96,zT⟩))
  ·conv=>whnf
   rw[←hfin zo];refine⟨?_⟩
   (exact Ex.wG [0,1] [] [] (⟨pQ rfl rfl,rQ hq96,zT⟩))
set_option maxHeartbeats 1000000
theorem g78 :(Tryz.prog.eqGuardType Tryz.prog.depth 78)=false:=by decide+kernel
theorem h78 :(Tryz.prog.stoodInHeld 78)=false:=by decide+kernel
theorem zn9 (a b:Run):eqO Tryz.prog 78 (.agg (zaP a)) (.agg (zaP b))= .ok (decide (a.s=b.s)&&(decide (a.l=b.l)&&true)):=by
 have e1:bd (ty Tryz.prog 78) (λi=>eqA i.d (.agg (zaP a)) (.agg (zaP b)))= .no "comparison" :=by
  conv=>lhs;whnf
 have e2:eqT Tryz.prog 20 78 (.agg (zaP a)) (.agg (zaP b))= .ok (decide (a.s=b.s)&&(decide (a.l=b.l)&&true)):=by
  rw[eqT];rw[h78];rfl
 unfold eqO;rw[e1];show eqW _ _ _ _=_;unfold eqW;rw[g78];exact e2
theorem zwW (a b:Run):(decide (a.s=b.s)&&(decide (a.l=b.l)&&true))=decide (a=b):=by
 obtain⟨s,l⟩:=a;obtain⟨s',l'⟩:=b;simp[Run.mk.injEq]
theorem g61 :(Tryz.prog.eqGuardType Tryz.prog.depth 61)=false:=by decide+kernel
theorem h61 :(Tryz.prog.stoodInHeld 61)=false:=by decide+kernel
theorem g71 :(Tryz.prog.eqGuardType Tryz.prog.depth 71)=false:=by decide+kernel
theorem h71 :(Tryz.prog.stoodInHeld 71)=false:=by decide+kernel
theorem g73 :(Tryz.prog.eqGuardType Tryz.prog.depth 73)=false:=by decide+kernel
theorem h73 :(Tryz.prog.stoodInHeld 73)=false:=by decide+kernel
theorem bdok {α β:Type} {r:R α} {b:α} {k:α->R β} (h:r= .ok b):bd r k=k b:=by rw[h];rfl
theorem zmO (n:Nat) (a b:Ref):eqT Tryz.prog (n+2) 61 (.agg (ze1 a)) (.agg (ze1 b))= .ok (decide (a.r=b.r)&&(decide (a.q=b.q)&&true)):=by
 rw[eqT];rw[h61];rfl
theorem zxt (a b:Nm):eqT Tryz.prog 20 71 (.agg (aNm a)) (.agg (aNm b))= .ok ((decide (a.d.r=b.d.r)&&(decide (a.d.q=b.d.q)&&true))&&(decide (a.n=b.n)&&true)):=by
 rw[eqT];rw[h71]
 conv=>lhs;whnf
 have e:eqT Tryz.prog 19 61 (.agg [ib a.d.r,ib a.d.q]) (.agg [ib b.d.r,ib b.d.q])=_:=zmO 17 a.d b.d;dsimp only;rw[e];rfl
theorem zxu (a b:En):eqT Tryz.prog 20 73 (.agg (aEn a)) (.agg (aEn b))= .ok (decide (a.n=b.n)&&((decide (a.f.r=b.f.r)&&(decide (a.f.q=b.f.q)&&true))&&(decide (a.z=b.z)&&true))):=by
 rw[eqT];rw[h73]
 conv=>lhs;whnf
 have e:eqT Tryz.prog 19 61 (.agg [ib a.f.r,ib a.f.q]) (.agg [ib b.f.r,ib b.f.q])=_:=zmO 17 a.f b.f;refine(bdok (b:=(decide (a.f.r=b.f.r)&&(decide (a.f.q=b.f.q)&&true))&&(decide (a.z=b.z)&&true)) ?_).trans rfl
 conv=>lhs;whnf
 dsimp only;rw[e];rfl
theorem zoa {P:Program} {T:TypeId} {x y:AV} {e:String} {r:R Bool} (e1:bd (ty P T) (λi=>eqA i.d x y)= .no e) (g:P.eqGuardType P.depth T=false) (h:eqT P 20 T x y=r):eqO P T x y=r:=by
 unfold eqO;rw[e1];show eqW _ _ _ _=_;unfold eqW;rw[g];exact h
theorem zvd (a b:Ref):(decide (a.r=b.r)&&(decide (a.q=b.q)&&true))=decide (a=b):=by
 obtain⟨s,l⟩:=a;obtain⟨s',l'⟩:=b;simp[Ref.mk.injEq]
theorem zaH (a b:Ref):eqO Tryz.prog 61 (.agg (ze1 a)) (.agg (ze1 b))= .ok (decide (a=b)):=by
 rw[←zvd];exact zoa (e:= "comparison") (by conv=>lhs;whnf) g61 (zmO 18 a b)
theorem zrw (a b:Nm):eqO Tryz.prog 71 (.agg (aNm a)) (.agg (aNm b))= .ok (decide (a=b)):=by
 have h:=zxt a b;rw[zvd] at h;refine zoa (e:= "comparison") (by conv=>lhs;whnf) g71 (h.trans ?_);obtain⟨s,l⟩:=a;obtain⟨s',l'⟩:=b;simp[Nm.mk.injEq]
theorem zxx (a b:En):eqO Tryz.prog 73 (.agg (aEn a)) (.agg (aEn b))= .ok (decide (a=b)):=by
 have h:=zxu a b;rw[zvd] at h;refine zoa (e:= "comparison") (by conv=>lhs;whnf) g73 (h.trans ?_);obtain⟨s,l,m⟩:=a;obtain⟨s',l',m'⟩:=b;simp[En.mk.injEq]
theorem zeY {P:Program} {T e:TypeId} {d:Ty} {sz n:Nat} {f:Nat->List AV} (hi:ty P T= .ok d) (hd:d.d= .slice e) (h:0<n):eqO P T (.lst sz n f) (.sc (.slice none 0 0))= .ok false:=by
 have hb:Nat.blt 0 n=true:=zdl h;unfold eqO;rw[hi];simp only[bd,hd,eqA,hb]
theorem mt2 {P:Program} (hmix:P.follows .mixedOrders=true) {f:FuncId} {sz sz':Nat} {g g':Nat->List AV} (h1:∀s,CallOk P f [.sc (.slice none 0 0)] s (.sc (.slice none 0 0)) s) (h2:∀a cap,zo0 P 0 f [.sc (.slice (some a) 0 cap)] ⟨.e,0⟩ (PRet (.lst sz' 0 g'))):PureC P f [.lst sz 0 g] (.lst sz' 0 g'):=by
 intro s0 m w args' hR hok hfr;obtain⟨x,_,rfl,⟨A,cap,rfl,hcap,hA,_⟩,rfl⟩:=hR
 cases A with
 |none=>
  obtain⟨_,rfl⟩:=hA (.inl rfl);refine Calls.mono (h1 s0 m w _ ⟨_,_,rfl,rfl,rfl⟩ hok hfr) ?_;rintro e w' ⟨y,m',rfl,hg,hy⟩;cases hy;exact⟨_,m',rfl,hg,⟨none,0,rfl,yhX _,λ_=>⟨rfl,rfl⟩,λi hi=>absurd hi (ypX _)⟩⟩
 |some a=>exact PureC.core hmix (h2 a cap) hok (m0:=⟨λ_=>none,m.z⟩) rfl (λ_ _=>rfl) ⟨_,_,rfl,rfl,rfl⟩
set_option maxHeartbeats 4000000
theorem zsm (l:List Int) (x:Int) (hl:l.length<=100000):PureC Tryz.prog 170 [LS 1 aI 0 l,ib x] (ib (ixL (λy=>decide (x=y)) l 0)):=by
 obtain⟨W,hW⟩:∃W,ixL (λy=>decide (x=y)) l 0=W:=⟨_,rfl⟩
 rw[hW];have hW:ixL (λy=>decide (x=y)) (l.drop 0) 0=W:=hW;refine ytX zal rfl ?_;refine Ex.go ?_;refine yFX zal (D:=Nat) (λd=>l.length-d) (λd=>d<=l.length/\ixL (λy=>decide (x=y)) (l.drop d) d=W) (λd=>zag [(0,LS 1 aI 0 l),(1,ib x),(7,ib l.length),(8,ib d)] 19) (λd=>zan []) 0 ⟨ymX _,hW⟩ ?_ ?_
 ·exact Ex.wO [] []
 ·clear hW;rintro d ⟨hd,hW⟩;refine Ex.go ?_;refine yPX (λh=> ?_) (λh=> ?_)
  ·have hlt:d<l.length:=zo;rw[drop_at 0 l d hlt] at hW;unfold ixL at hW;by_cases hx:x=at_ 0 l d
   ·rw[ygX (by simp[hx])] at hW
    (conv=>whnf);repeat(first|refine KIf.t (ybX hx) ?_|refine Ex.g ?_);conv=>whnf
    refine .z [] ?_;rw[←hW];exact ydX rfl
   ·rw[yfX (by simp[hx])] at hW
    (conv=>whnf);repeat(first|refine KIf.f (ycX hx) ?_|refine Ex.g ?_);conv=>whnf
    refine⟨d+1,⟨zo,hW⟩,by dsimp only;omega,?_⟩;exact Ex.wO [] []
  ·have hde:d=l.length:=zo;rw[hde,y9X] at hW;refine Ex.go ?_;refine .z [] ?_;rw[←hW];exact ydX rfl
theorem zlV (l:List Int) (x:Int) (hl:l.length<=100000):PureC Tryz.prog 147 [LS 1 aI 0 l,ib x] (bb (l.contains x)):=by
 have hc:l.contains x=decide (0<=ixL (λy=>decide (x=y)) l 0):=by
  rw[zds,List.contains_eq_any_beq];rfl
 rw[hc];refine ytX zal rfl ?_
 (conv=>whnf);repeat((refine yaX (zsm l x hl) ?_;conv=>whnf))
 refine .z [] ?_;exact ydX rfl
end Go.Proofs.YtgcjejajljhnaaaGreatDoor
namespace Go.Proofs
open Go.Shelf
def Tryz.lays137_ren :Go.Shelf.Ren:=⟨fun|137=>220|217=>211|266=>225|n=>n,fun|9=>9|5=>5|3=>3|n=>n,fun|n=>n⟩
theorem Tryz.lays137 :Go.Proofs.Lays.n137 Tryz.prog Tryz.lays137_ren:={
 mixed:=by kernel_rfl
 f137:=Tryz.func220.trans (yqX some (by kernel_rfl))
 f217:=Tryz.func211.trans (yqX some (by kernel_rfl))
 f266:=Tryz.func225.trans (yqX some (by kernel_rfl))
 t3:=Tryz.underlying3
 a3:=Tryz.isAgg3
 z3:=Tryz.sizeOf3
 v3:=Tryz.zeroValue3
 t5:=Tryz.underlying5
 a5:=Tryz.isAgg5
 z5:=Tryz.sizeOf5
 v5:=Tryz.zeroValue5
 t9:=Tryz.underlying9
 a9:=Tryz.isAgg9
 z9:=Tryz.sizeOf9
 v9:=Tryz.zeroValue9}
open Go.RowKit in
theorem Tryz.strings_IndexByte (s:ByteArray) (c:Int) (w:World):
  Calls Tryz.prog 220 #[.string s, .int .u8 c] w λe w'=>e= .returned (.int .i64 (Lib.indexByte s.data.toList c.toNat.toUInt8))/\w'=w:=Any.strings_IndexByte Tryz.lays137 s c w
end Go.Proofs
namespace Ck
open Go Go.Ex
def aU (c:UInt8):List AV:=[.sc (.int .u8 c.toNat)]
theorem zml (c:UInt8):decide (Lib.indexByte [34,42,47,58,60,62,63,92,124] c<0)= !([34,42,47,58,60,62,63,92,124].contains c):=by
 have key:∀x:Fin 256,decide (Lib.indexByte [34,42,47,58,60,62,63,92,124] (UInt8.ofNat x.1)<0)= !([34,42,47,58,60,62,63,92,124].contains (UInt8.ofNat x.1)):=by decide+kernel
 have:=key ⟨c.toNat,c.toNat_lt⟩
 rwa [yCZ] at this
theorem zmC {s:List UInt8} {b:UInt8} (h:s≠[]):(List.take (s.length-((s.length:Int)-(([b]:List UInt8).length:Int)).toNat) (List.drop ((s.length:Int)-(([b]:List UInt8).length:Int)).toNat s)=[b])↔s.getLast? =some b:=by
 have hp:0<s.length:=yXX.2 h
 have e:((s.length:Int)-(([b]:List UInt8).length:Int)).toNat=s.length-1:=by show((s.length:Int)-1).toNat=_;omega
 rw[e,List.getLast?_eq_getElem?,ysX zo,yqZ zo,List.drop_eq_nil_of_le zo,show s.length-(s.length-1)=1 by omega];simp
theorem ztd (s:List UInt8):zdr s=(!decide (s=[])&&(decide (s.length<=32)&&(s.all zaQ&&(!decide (s=[46,46])&&(!decide (s.getLast? =some 32)&& !decide (s.getLast? =some 46)))))):=by
 unfold zdr
 have e1:∀a b:List UInt8,(a !=b)= !decide (a=b):=λa b=>by
  by_cases h:a=b
  ·simp[h]
  ·simp[h]
 have e2:∀a b:Option UInt8,(a !=b)= !decide (a=b):=λa b=>by
  by_cases h:a=b
  ·simp[h]
  ·simp[h]
 rw[e1,e1,e2,e2];simp only[Bool.and_assoc]
theorem zxp {h:T AO} {z:List Nat} {g:Nat} {cs:List AV} {b:Nat} {e:TypeId} {q:Nat} (hr:h.get b=some (.row cs e q)) (hz:b∈z) (hc:Wzl h z cs cs):Wz h z (.fn (.func g) [] [.cp cs 0]) (.fn (.func g) [] [.ptr b 0]):=by
 unfold Wz;refine⟨rfl,trivial,⟨?_,zT⟩⟩;unfold Wz;exact⟨rfl,hz,cs,e,q,hr,yhX _,by rw[yCY];exact hc⟩
end Ck
namespace Go.Proofs.YtgcjejajljhnaaaGreatDoor
open Go.Ex Ck
set_option maxRecDepth 100000
set_option maxHeartbeats 8000000
theorem zm6 (l:List UInt8) (c:UInt8):PureC Tryz.prog 220 [tb l, .sc (.int .u8 c.toNat)] (ib (Lib.indexByte l c)):=λ_=>yvY (args:=[.string ⟨⟨l⟩⟩, .int .u8 c.toNat]) λw _=>(Tryz.strings_IndexByte ⟨⟨l⟩⟩ c.toNat w).mono λe w' ⟨h1,h2⟩=>⟨by rw[h1,yrX,Nat.toUInt8,yCZ],by subst h2;exact RowKit.Below.refl _ _⟩
theorem zjX (c:UInt8):PureC Tryz.prog 200 [.sc (.int .u8 c.toNat)] (bb (zaQ c)):=by
 have hI:=zm6 [34,42,47,58,60,62,63,92,124] c;have hr:=zml c;refine ytX zal rfl ?_;by_cases h1:c.toNat<32
 ·have hf:zaQ c=false:=by unfold zaQ;rw[ycX zo];rfl
  rw[hf]
  (conv=>whnf);repeat(first|refine Ex.g ?_|refine Ex.om ?_);conv=>whnf
  refine .z [] ?_;exact ydX rfl
 by_cases h2:126<c.toNat
 ·have hf:zaQ c=false:=by unfold zaQ;rw[ycX (show ¬c.toNat<=126 by omega),Bool.and_false];rfl
  rw[hf]
  (conv=>whnf);repeat((refine Ex.om ?_;conv=>whnf))
  refine .z [] ?_;exact ydX rfl
 have hl:zaQ c=decide (Lib.indexByte [34,42,47,58,60,62,63,92,124] c<0):=by
  unfold zaQ;rw[hr,ybX (show 32<=c.toNat by omega),ybX (show c.toNat<=126 by omega)];rfl
 rw[hl]
 (conv=>whnf);repeat(first|refine yaX (hI) ?_|refine Ex.om ?_);conv=>whnf
 refine .z [] ?_;exact ydX rfl
theorem zoQ (c:UInt8):PureC Tryz.prog 219 [.sc (.int .u8 c.toNat), .cp [.sc (.func (.func 200) #[] #[])] 0] (bb (!zaQ c)):=by
 refine ytX zal rfl ?_
 (conv=>whnf);repeat((refine yaX (zjX c) ?_;conv=>whnf))
 refine .z [] ?_;exact ydX rfl
theorem zm7 (s:List UInt8) (b:UInt8) (hs:s.length<=100000):PureC Tryz.prog 221 [tb s,tb [b]] (bb (decide (s.getLast? =some b))):=by
 refine ytX zal rfl ?_
 by_cases h:s=[]
 ·subst h
  (conv=>whnf);repeat((refine Ex.g ?_;conv=>whnf))
  refine .z [] ?_;exact ydX rfl
 have hp:0<s.length:=yXX.2 h
 have h1:(([b]:List UInt8).length:Int)<=s.length:=by show(1:Int)<=s.length;omega
 have h2:0<=(s.length:Int)-(([b]:List UInt8).length:Int)/\(s.length:Int)-(([b]:List UInt8).length:Int)<=s.length:=by show 0<=(s.length:Int)-1/\(s.length:Int)-1<=s.length;omega
 (conv=>whnf);repeat((refine Ex.g ?_;conv=>whnf))
 rw[show decide (s.getLast? =some b)=decide (List.take (s.length-((s.length:Int)-(([b]:List UInt8).length:Int)).toNat) (List.drop ((s.length:Int)-(([b]:List UInt8).length:Int)).toNat s)=[b]) from decide_eq_decide.2 (zmC h).symm];refine .z [] ?_;exact ydX rfl
theorem zgn (s:List UInt8) (b:UInt8) (hs:s.length<=100000):PureC Tryz.prog 201 [tb s,tb [b]] (bb (decide (s.getLast? =some b))):=by
 refine ytX zal rfl ?_
 (conv=>whnf);repeat((refine yaX (zm7 s b hs) ?_;conv=>whnf))
 refine .z [] ?_;exact ydX rfl
theorem ztR (l:List UInt8) (hl:l.length<=100000):PureC Tryz.prog 229 [LS 1 aU 0 l, .fn (.func 219) [] [.cp [.sc (.func (.func 200) #[] #[])] 0]] (ib (ixL (λc=> !zaQ c) l 0)):=by
 obtain⟨W,hW⟩:∃W,ixL (λc=> !zaQ c) l 0=W:=⟨_,rfl⟩
 rw[hW];have hW:ixL (λc=> !zaQ c) (l.drop 0) 0=W:=hW;refine ytX zal rfl ?_;refine Ex.go ?_;refine yFX zal (D:=Nat) (λd=>l.length-d) (λd=>d<=l.length/\ixL (λc=> !zaQ c) (l.drop d) d=W) (λd=>zag [(0,LS 1 aU 0 l),(1, .fn (.func 219) [] [.cp [.sc (.func (.func 200) #[] #[])] 0]),(7,ib l.length),(8,ib d)] 19) (λd=>zan []) 0 ⟨ymX _,hW⟩ ?_ ?_
 ·exact Ex.wO [] []
 ·clear hW;rintro d ⟨hd,hW⟩;by_cases hlt:d<l.length
  ·have hp:=zoQ (at_ 0 l d);rw[drop_at 0 l d hlt] at hW;unfold ixL at hW;cases hx:zaQ (at_ 0 l d)
   ·rw[ygX (by rw[hx];rfl)] at hW;rw[hx] at hp
    (conv=>whnf);repeat(first|refine Ex.g ?_|refine Ex.om ?_|refine yaX (hp) ?_);conv=>whnf
    refine .z [] ?_;rw[←hW];exact ydX rfl
   ·rw[yfX (by rw[hx];decide)] at hW;rw[hx] at hp
    (conv=>whnf);repeat(first|refine Ex.g ?_|refine Ex.om ?_|refine yaX (hp) ?_);conv=>whnf
    refine⟨d+1,⟨zo,hW⟩,by dsimp only;omega,?_⟩;exact Ex.wO [] []
  ·have hde:d=l.length:=zo;rw[hde,y9X] at hW
   (conv=>whnf);repeat((refine Ex.om ?_;conv=>whnf))
   refine .z [] ?_;rw[←hW];exact ydX rfl
theorem zm9 (l:List UInt8) (hl:l.length<=100000):PureC Tryz.prog 218 [LS 1 aU 0 l, .fn (.func 219) [] [.cp [.sc (.func (.func 200) #[] #[])] 0]] (bb (l.any λc=> !zaQ c)):=by
 rw[←zds (λc=> !zaQ c) l 0];refine ytX zal rfl ?_
 (conv=>whnf);repeat((refine yaX (ztR l hl) ?_;conv=>whnf))
 refine .z [] ?_;exact ydX rfl
theorem zpn (s:List UInt8) (hs:s.length<=100000):PureC Tryz.prog 199 [tb s, .sc (.func (.func 200) #[] #[])] (bb (s.all zaQ)):=by
 have hC:=zm9 s hs
 have hr:s.all zaQ= !(s.any λc=> !zaQ c):=by rw[List.all_eq_not_any_not]
 rw[hr];refine ytX zal rfl ?_
 (conv=>whnf);repeat(first|refine Ex.g ?_|refine yoY ([0,1]) (hC) (⟨Wz.own (b:=1) rfl (by simp) rfl (λ_ _=>rfl) (zgZ zbf 0 s) (λ_ _=>rfl),zxp rfl (by simp) ⟨ydX rfl,zT⟩,zT⟩) ?_);conv=>whnf
 refine .z [] ?_;exact ydX rfl
theorem zq9 (s:List UInt8) (hs:s.length<=100000):PureC Tryz.prog 168 [tb s] (bb (zdr s)):=by
 have hA:=zpn s hs;have h1:=zgn s 32 hs;have h2:=zgn s 46 hs;rw[ztd]
 obtain⟨b,hb⟩:∃b,s.all zaQ=b:=⟨_,rfl⟩
 obtain⟨c,hc⟩:∃b,decide (s.getLast? =some 32)=b:=⟨_,rfl⟩
 obtain⟨d,hd⟩:∃b,decide (s.getLast? =some 46)=b:=⟨_,rfl⟩
 rw[hb] at hA⊢;rw[hc] at h1⊢;rw[hd] at h2⊢;refine ytX zal rfl ?_
 by_cases q1:s=[]
 ·rw[ybX q1]
  (conv=>whnf);repeat(first|refine Ex.g ?_|refine KIf.f (yqX Bool.not (ybX q1)) ?_);conv=>whnf
  refine .z [] ?_;exact ydX rfl
 rw[ycX q1];by_cases q2:s.length<=32
 ·rw[ybX q2];cases b
  ·(conv=>whnf);repeat(first|refine Ex.g ?_|refine KIf.t (yqX Bool.not (ycX q1)) ?_|refine yaX (hA) ?_|refine Ex.om ?_);conv=>whnf
   refine .z [] ?_;exact ydX rfl
  by_cases q3:s=[46,46]
  ·rw[ybX q3]
   (conv=>whnf);repeat(first|refine Ex.g ?_|refine KIf.t (yqX Bool.not (ycX q1)) ?_|refine yaX (hA) ?_|refine KIf.f (yqX Bool.not (ybX q3)) ?_|refine Ex.om ?_);conv=>whnf
   refine .z [] ?_;exact ydX rfl
  rw[ycX q3];cases c
  ·(conv=>whnf);repeat(first|refine Ex.g ?_|refine KIf.t (yqX Bool.not (ycX q1)) ?_|refine yaX (hA) ?_|refine KIf.t (yqX Bool.not (ycX q3)) ?_|refine yaX (h1) ?_|refine yaX (h2) ?_|refine Ex.om ?_);conv=>whnf
   refine .z [] ?_;exact ydX rfl
  ·(conv=>whnf);repeat(first|refine Ex.g ?_|refine KIf.t (yqX Bool.not (ycX q1)) ?_|refine yaX (hA) ?_|refine KIf.t (yqX Bool.not (ycX q3)) ?_|refine yaX (h1) ?_|refine Ex.om ?_);conv=>whnf
   refine .z [] ?_;exact ydX rfl
 ·rw[ycX q2]
  (conv=>whnf);repeat(first|refine Ex.g ?_|refine KIf.t (yqX Bool.not (ycX q1)) ?_|refine Ex.om ?_);conv=>whnf
  refine .z [] ?_;exact ydX rfl
theorem zk3 (b:Bool) (e:Int):PureC Tryz.prog 167 [bb b,ib e] (ib (if b then 0 else e)):=by
 refine ytX zal rfl ?_
 conv=>whnf
 cases b
 all_goals
  refine Ex.go ?_;refine .z [] ?_;(conv=>whnf);exact⟨rfl,rfl⟩
theorem zs2 (l:List Int) (hl:l.length<=1000000):PureC Tryz.prog 166 [LS 1 aI 0 l] (ib (Ck.first l)):=by
 refine ytX zal rfl ?_
 conv=>whnf
 refine yFX zal (D:=Nat) (λd=>l.length-d) (λd=>d<=l.length/\Ck.first (l.drop d)=Ck.first l) (λd=>zag [(0,LS 1 aI 0 l),(5,LS 1 aI 0 l),(6,ib l.length),(7,ib d)] 15) (λd=>zan []) 0 ⟨ymX _,rfl⟩ ?_ ?_
 ·exact Ex.wO [] []
 ·rintro d ⟨hd,hz⟩;by_cases hlt:d<l.length
  ·have hs:Ck.first (at_ 0 l d::l.drop (d+1))=if at_ 0 l d=0 then Ck.first (l.drop (d+1)) else at_ 0 l d:=rfl
   rw[drop_at 0 l d hlt,hs] at hz;by_cases h0:at_ 0 l d=0
   ·rw[ygX h0] at hz
    (conv=>whnf);repeat(first|refine Ex.g ?_|refine KIf.f (yqX Bool.not (ybX h0)) ?_|refine Ex.om ?_);conv=>whnf
    refine⟨d+1,⟨zo,hz⟩,by dsimp only;omega,?_⟩;exact Ex.wO [] []
   ·rw[yfX h0] at hz;rw[←hz]
    (conv=>whnf);repeat(first|refine Ex.g ?_|refine KIf.t (yqX Bool.not (ycX h0)) ?_|refine Ex.om ?_);conv=>whnf
    refine .z [] ?_;exact ydX rfl
  ·rw[←hz,show d=l.length by omega,y9X]
   (conv=>whnf);repeat((refine Ex.om ?_;conv=>whnf))
   refine .z [] ?_;exact ydX rfl
theorem zdE (s:List UInt8) (hs:s.length<=100000):PureC Tryz.prog 134 [tb s] (ib (zau s)):=by
 have hL:=zq9 s hs;have hU1:=zk3 (decide (s.length<=32)) 8;have hU2:=zk3 (zdr s) 4;have hf:=zs2 [if decide (s.length<=32)=true then 0 else 8,if zdr s=true then 0 else 4] (by decide:(2:Nat)<=1000000)
 have he:Ck.first [if decide (s.length<=32)=true then 0 else 8,if zdr s=true then 0 else 4]=zau s:=by
  unfold zau;by_cases h:32<s.length
  ·rw[ygX h,ycX zo];rfl
  ·rw[yfX h,ybX zo];cases zdr s<;>rfl
 rw[he] at hf;have hd:decide ((s.length:Int)<=32)=decide (s.length<=32):=decide_eq_decide.2 zo;rw[←hd] at hU1 hf;refine ytX zal rfl ?_
 (conv=>whnf);repeat(first|refine yaX (hL) ?_|refine yaX (hU1) ?_|refine yaX (hU2) ?_|refine KCall.frz [0] (hf) ⟨yzZ rfl (by simp) rfl (yhX 2) (λ_ _=>rfl) rfl (λ_ _=>rfl),zT⟩ ?_);conv=>whnf
 refine .z [] ?_;exact ydX rfl
end Go.Proofs.YtgcjejajljhnaaaGreatDoor
namespace Go.Proofs.YtgcjejajljhnaaaGreatDoor
open Go.Ex (ai ab ay)
theorem zed :Tryz.prog.follows .mixedOrders=true:=by decide+kernel
theorem zwd :Ex.zgF Tryz.prog (Ex.zup 220):=Ex.extIdx_ok λs c w=>(Tryz.strings_IndexByte s c w).mono λe w' ⟨he,hw⟩=>⟨he,hw⟩
def mt :Ex.AV:= .sc (.slice none 0 0)
def ao :Ex.AV:=ai 0
def zr (l:List Ex.AV):List Ex.AV:=ab false::ai 1::ao::ao::ao::ao::ao::mt::mt::mt::l
theorem exm {x:Ex.Memo} {e:Ex.Ext} (h:x.Ok Tryz.prog) (he:Ex.zgF Tryz.prog e):Ex.zgF Tryz.prog (Ex.zuq (Ex.zx3 [x]) e):=Ex.extAnd_ok (Ex.zvQ (List.forall_mem_cons.2 ⟨h,zN⟩)) he
theorem exc {x:Ex.Chunk} {e:Ex.Ext} (h:x.Ok Tryz.prog) (he:Ex.zgF Tryz.prog e):Ex.zgF Tryz.prog (Ex.zuq (Ex.zvP [x]) e):=Ex.extAnd_ok (Ex.ztl (List.forall_mem_cons.2 ⟨h,zN⟩)) he
def awm0 :Ex.Memo:=
 {f:=134,args:=[(ay [97])],v:=ao}
def zy0 :=exm (y6Z zed zwd (c:=awm0) (k:=2000) (by decide+kernel)) zwd
def awm1 :Ex.Memo:=
 {f:=134,args:=[(ay [98])],v:=ao}
def zyZ :=exm (y6Z zed zy0 (c:=awm1) (k:=2000) (by decide+kernel)) zy0
def awm2 :Ex.Memo:=
 {f:=202,args:=[(ay [98])],v:=(ay [66])}
def zyY :=exm (y6Z zed zyZ (c:=awm2) (k:=2000) (by decide+kernel)) zyZ
def awm3 :Ex.Memo:=
 {f:=202,args:=[(ay [97])],v:=(ay [65])}
def zyX :=exm (y6Z zed zyY (c:=awm3) (k:=2000) (by decide+kernel)) zyY
def awc0 :Ex.Chunk:=
 {f:=20,n:=52,args:=[(.agg [(ai 64),(.sl 1 0 1 1),(.so 39 0 18 0),(.sl 2 0 1 1),(ay [15,12,0,0,0,0,0,0])])],pre:=[(1,(.row [ao,(ai 4)] 78 0)),(2,(.row [(ai 1)] 3 0)),(39,(.row (zr (zr (zr (zr (zr ((ab true)::(ai 1)::ao::ao::ao::ao::(ai 1)::mt::mt::(.sl 41 0 2 2)::zr (zr (zr (zr (zr (zr (zr (zr (zr (zr [(ab true),(ai 1),(ai 1),ao,ao,(ai 1),(ai 1),(.sl 42 0 1 1),(.sl 44 0 1 1),mt,(ab true),(ai 1),(ai 1),ao,ao,(ai 1),(ai 1),(.sl 45 0 1 1),(.sl 47 0 1 1),mt]))))))))))))))) 66 10)),(41,(.row [(ay [97]),(ai 16),(ai 1),(ai 300),(ay [98]),(ai 17),(ai 1),(ai 200)] 73 0)),(42,(.row [(ai 5),(ai 1),(ay [97])] 71 0)),(43,(.row [(ai 10),(ai 2)] 78 0)),(44,(.row [(.sl 43 0 1 1),(ai 300)] 80 0)),(45,(.row [(ai 5),(ai 1),(ay [98])] 71 0)),(46,(.row [(ai 11),(ai 1)] 78 0)),(47,(.row [(.sl 46 0 1 1),(ai 200)] 80 0))],v:=(.tup [(.so 459 0 2 0),ao]),n':=512,post:=[(1,(.row [ao,(ai 4)] 78 0)),(2,(.row [(ai 1)] 3 0)),(39,(.row (zr (zr (zr (zr (zr ((ab true)::(ai 1)::ao::ao::ao::ao::(ai 1)::mt::mt::(.sl 41 0 2 2)::zr (zr (zr (zr (zr (zr (zr (zr (zr (zr [(ab true),(ai 1),(ai 1),ao,ao,(ai 1),(ai 1),(.sl 42 0 1 1),(.sl 44 0 1 1),mt,(ab true),(ai 1),(ai 1),ao,ao,(ai 1),(ai 1),(.sl 45 0 1 1),(.sl 47 0 1 1),mt]))))))))))))))) 66 10)),(41,(.row [(ay [97]),(ai 16),(ai 1),(ai 300),(ay [98]),(ai 17),(ai 1),(ai 200)] 73 0)),(42,(.row [(ai 5),(ai 1),(ay [97])] 71 0)),(43,(.row [(ai 10),(ai 2)] 78 0)),(44,(.row [(.sl 43 0 1 1),(ai 300)] 80 0)),(45,(.row [(ai 5),(ai 1),(ay [98])] 71 0)),(46,(.row [(ai 11),(ai 1)] 78 0)),(47,(.row [(.sl 46 0 1 1),(ai 200)] 80 0)),(459,(.row [(ai 1),(ai 17),ao,(ai 9),(ai 5),(ai 1)] 86 3))]}
def zyW :=exc (yZZ zed zyX (c:=awc0) (k:=2000) (by decide+kernel)) zyX
def awc1 :Ex.Chunk:=
 {f:=20,n:=565,args:=[(.agg [(ai 64),(.sl 513 0 1 1),(.so 551 0 18 0),(.sl 514 0 1 1),(ay [15,12,0,0,0,0,0,0])])],pre:=[(513,(.row [ao,(ai 4)] 78 0)),(514,(.row [(ai 1)] 3 0)),(551,(.row (zr (zr (zr (zr (zr ((ab true)::(ai 1)::ao::ao::ao::ao::(ai 1)::mt::mt::(.sl 553 4 1 1)::zr (zr (zr (zr (zr (zr (zr (zr (zr (zr [(ab true),(ai 1),(ai 1),ao,ao,(ai 1),(ai 1),(.sl 554 0 1 1),(.sl 556 0 1 1),mt,(ab true),(ai 1),(ai 1),ao,ao,(ai 1),(ai 1),(.sl 557 0 1 1),(.sl 559 0 1 1),mt]))))))))))))))) 66 10)),(553,(.row [(ay [97]),(ai 16),(ai 1),(ai 300),(ay [98]),(ai 17),(ai 1),(ai 200)] 73 0)),(554,(.row [(ai 5),(ai 1),(ay [97])] 71 0)),(555,(.row [(ai 10),(ai 2)] 78 0)),(556,(.row [(.sl 555 0 1 1),(ai 300)] 80 0)),(557,(.row [(ai 5),(ai 1),(ay [98])] 71 0)),(558,(.row [(ai 11),(ai 1)] 78 0)),(559,(.row [(.sl 558 0 1 1),(ai 200)] 80 0))],v:=(.tup [(.so 951 0 3 0),ao]),n':=1012,post:=[(513,(.row [ao,(ai 4)] 78 0)),(514,(.row [(ai 1)] 3 0)),(551,(.row (zr (zr (zr (zr (zr ((ab true)::(ai 1)::ao::ao::ao::ao::(ai 1)::mt::mt::(.sl 553 4 1 1)::zr (zr (zr (zr (zr (zr (zr (zr (zr (zr [(ab true),(ai 1),(ai 1),ao,ao,(ai 1),(ai 1),(.sl 554 0 1 1),(.sl 556 0 1 1),mt,(ab true),(ai 1),(ai 1),ao,ao,(ai 1),(ai 1),(.sl 557 0 1 1),(.sl 559 0 1 1),mt]))))))))))))))) 66 10)),(553,(.row [(ay [97]),(ai 16),(ai 1),(ai 300),(ay [98]),(ai 17),(ai 1),(ai 200)] 73 0)),(554,(.row [(ai 5),(ai 1),(ay [97])] 71 0)),(555,(.row [(ai 10),(ai 2)] 78 0)),(556,(.row [(.sl 555 0 1 1),(ai 300)] 80 0)),(557,(.row [(ai 5),(ai 1),(ay [98])] 71 0)),(558,(.row [(ai 11),(ai 1)] 78 0)),(559,(.row [(.sl 558 0 1 1),(ai 200)] 80 0)),(951,(.row [(ai 1),(ai 17),ao,(ai 5),(ai 16),ao,(ai 9),(ai 5),ao] 86 3))]}
def zyV :=exc (yZZ zed zyW (c:=awc1) (k:=2000) (by decide+kernel)) zyW
def awc2 :Ex.Chunk:=
 {f:=15,n:=1064,args:=[(.agg [(ai 64),(.sl 1013 0 1 1),(.so 1051 0 18 0),(.sl 1014 0 1 1),(ay [15,12,0,0,0,0,0,0])])],pre:=[(1013,(.row [ao,(ai 4)] 78 0)),(1014,(.row [(ai 1)] 3 0)),(1051,(.row (zr (zr (zr (zr (zr ((ab true)::(ai 1)::ao::ao::ao::ao::(ai 1)::mt::mt::(.sl 1053 0 2 2)::zr (zr (zr (zr (zr (zr (zr (zr (zr (zr [(ab true),(ai 1),(ai 1),ao,ao,(ai 1),(ai 1),(.sl 1054 0 1 1),(.sl 1056 0 1 1),mt,(ab true),(ai 1),(ai 1),ao,ao,(ai 1),(ai 1),(.sl 1057 0 1 1),(.sl 1059 0 1 1),mt]))))))))))))))) 66 10)),(1053,(.row [(ay [97]),(ai 16),(ai 1),(ai 300),(ay [98]),(ai 17),(ai 1),(ai 200)] 73 0)),(1054,(.row [(ai 5),(ai 1),(ay [97])] 71 0)),(1055,(.row [(ai 10),(ai 2)] 78 0)),(1056,(.row [(.sl 1055 0 1 1),(ai 300)] 80 0)),(1057,(.row [(ai 5),(ai 1),(ay [98])] 71 0)),(1058,(.row [(ai 11),(ai 1)] 78 0)),(1059,(.row [(.sl 1058 0 1 1),(ai 200)] 80 0))],v:=(.tup [(.so 1148 0 3 0),ao]),n':=1150,post:=[(1013,(.row [ao,(ai 4)] 78 0)),(1014,(.row [(ai 1)] 3 0)),(1051,(.row (zr (zr (zr (zr (zr ((ab true)::(ai 1)::ao::ao::ao::ao::(ai 1)::mt::mt::(.sl 1053 0 2 2)::zr (zr (zr (zr (zr (zr (zr (zr (zr (zr [(ab true),(ai 1),(ai 1),ao,ao,(ai 1),(ai 1),(.sl 1054 0 1 1),(.sl 1056 0 1 1),mt,(ab true),(ai 1),(ai 1),ao,ao,(ai 1),(ai 1),(.sl 1057 0 1 1),(.sl 1059 0 1 1),mt]))))))))))))))) 66 10)),(1053,(.row [(ay [97]),(ai 16),(ai 1),(ai 300),(ay [98]),(ai 17),(ai 1),(ai 200)] 73 0)),(1054,(.row [(ai 5),(ai 1),(ay [97])] 71 0)),(1055,(.row [(ai 10),(ai 2)] 78 0)),(1056,(.row [(.sl 1055 0 1 1),(ai 300)] 80 0)),(1057,(.row [(ai 5),(ai 1),(ay [98])] 71 0)),(1058,(.row [(ai 11),(ai 1)] 78 0)),(1059,(.row [(.sl 1058 0 1 1),(ai 200)] 80 0)),(1148,(.row [(ay [47]),(ay [47,97]),(ay [47,98])] 9 1))]}
def zyU :=exc (yZZ zed zyV (c:=awc2) (k:=2000) (by decide+kernel)) zyV
def awc3 :Ex.Chunk:=
 {f:=23,n:=1202,args:=[(.agg [(ai 64),(.sl 1151 0 1 1),(.so 1189 0 18 0),(.sl 1152 0 1 1),(ay [15,12,0,0,0,0,0,0])])],pre:=[(1151,(.row [ao,(ai 4)] 78 0)),(1152,(.row [(ai 1)] 3 0)),(1189,(.row (zr (zr (zr (zr (zr ((ab true)::(ai 1)::ao::ao::ao::ao::(ai 1)::mt::mt::(.sl 1191 0 2 2)::zr (zr (zr (zr (zr (zr (zr (zr (zr (zr [(ab true),(ai 1),(ai 1),ao,ao,(ai 1),(ai 1),(.sl 1192 0 1 1),(.sl 1194 0 1 1),mt,(ab true),(ai 1),(ai 1),ao,ao,(ai 1),(ai 1),(.sl 1195 0 1 1),(.sl 1197 0 1 1),mt]))))))))))))))) 66 10)),(1191,(.row [(ay [97]),(ai 16),(ai 1),(ai 300),(ay [98]),(ai 17),(ai 1),(ai 200)] 73 0)),(1192,(.row [(ai 5),(ai 1),(ay [97])] 71 0)),(1193,(.row [(ai 10),(ai 2)] 78 0)),(1194,(.row [(.sl 1193 0 1 1),(ai 300)] 80 0)),(1195,(.row [(ai 5),(ai 1),(ay [98])] 71 0)),(1196,(.row [(ai 11),(ai 1)] 78 0)),(1197,(.row [(.sl 1196 0 1 1),(ai 200)] 80 0))],v:=(.tup [(.so 1683 0 1 0),ao]),n':=1687,post:=[(1151,(.row [ao,(ai 4)] 78 0)),(1152,(.row [(ai 1)] 3 0)),(1189,(.row (zr (zr (zr (zr (zr ((ab true)::(ai 1)::ao::ao::ao::ao::(ai 1)::mt::mt::(.sl 1191 0 2 2)::zr (zr (zr (zr (zr (zr (zr (zr (zr (zr [(ab true),(ai 1),(ai 1),ao,ao,(ai 1),(ai 1),(.sl 1192 0 1 1),(.sl 1194 0 1 1),mt,(ab true),(ai 1),(ai 1),ao,ao,(ai 1),(ai 1),(.sl 1195 0 1 1),(.sl 1197 0 1 1),mt]))))))))))))))) 66 10)),(1191,(.row [(ay [97]),(ai 16),(ai 1),(ai 300),(ay [98]),(ai 17),(ai 1),(ai 200)] 73 0)),(1192,(.row [(ai 5),(ai 1),(ay [97])] 71 0)),(1193,(.row [(ai 10),(ai 2)] 78 0)),(1194,(.row [(.sl 1193 0 1 1),(ai 300)] 80 0)),(1195,(.row [(ai 5),(ai 1),(ay [98])] 71 0)),(1196,(.row [(ai 11),(ai 1)] 78 0)),(1197,(.row [(.sl 1196 0 1 1),(ai 200)] 80 0)),(1683,(.row [(ai 16)] 3 1))]}
def awe8 :=exc (yZZ zed zyU (c:=awc3) (k:=2000) (by decide+kernel)) zyU
abbrev zlM :Ex.Ext:=Ex.zup 220
theorem zc2 :Ex.zgF Tryz.prog zlM:=zwd
open Go.RowKit in
theorem zr5 (w:World) (ht:Ex.ztO w):Calls Tryz.prog 10 #[] w λe w'=>e= .returned (.bool true)/\Below w.heap.size w w':=yOY zed awe8 (args:=[]) (k:=2000) (v:= .bool true) (by decide+kernel) w ht
end Go.Proofs.YtgcjejajljhnaaaGreatDoor
namespace Go.Proofs.YtgcjejajljhnaaaGreatDoor
open Go.Ex Ck
set_option maxRecDepth 100000
set_option maxHeartbeats 4000000
theorem zia :Ex.zyT Tryz.prog zlM 4000 230 [] (.string ⟨⟨(List.range 128).map λi=>Ck.upB (UInt8.ofNat i)⟩⟩)=true:=by decide+kernel
theorem zlR :PureC Tryz.prog 230 [] (tb ((List.range 128).map λi=>Ck.upB (UInt8.ofNat i))):=λ_=>yvY (args:=[]) λw=>yOY zed zc2 (args:=[]) zia w
end Go.Proofs.YtgcjejajljhnaaaGreatDoor
namespace Ck
def zh4 (f:Nat->Bool) (j:Nat):Nat->Nat
 |0=>0
 |k+1=>zh4 f j k+(if f (8*j+k) then 2^k else 0)
theorem zks (f:Nat->Bool) (j:Nat):∀m,zh4 f j m<2^m
 |0=>by simp[zh4]
 |m+1=>by
  have:=zks f j m;unfold zh4;rw[Nat.pow_succ];split<;>omega
theorem zom (f:Nat->Bool) (j:Nat):∀m k,k<m->(zh4 f j m).testBit k=f (8*j+k)
 |0,k,h=>zo
 |m+1,k,h=>by
  unfold zh4;have hl:=zks f j m;by_cases hk:k<m
  ·rw[←zom f j m k hk];split
   ·rw[yIZ,Nat.testBit_two_pow_add_gt hk]
   ·rw[yvZ]
  ·obtain rfl:k=m:=zo;split
   ·rename_i h1;rw[yIZ,Nat.testBit_two_pow_add_eq,Nat.testBit_lt_two_pow hl,h1];rfl
   ·rename_i h1;rw[yvZ,Nat.testBit_lt_two_pow hl];simpa using h1
theorem zon (f g:Nat->Bool) (c:Nat) (hc:f c=false) (hg:∀i,g i=if i=c then true else f i):∀m,m<=8->zh4 g (c/8) m=zh4 f (c/8) m+if c%8<m then 2^(c%8) else 0
 |0,_=>by simp[zh4]
 |m+1,h8=>by
  have ih:=zon f g c hc hg m zo;show zh4 g (c/8) m+(if g (8*(c/8)+m) then 2^m else 0)=zh4 f (c/8) m+(if f (8*(c/8)+m) then 2^m else 0)+_;rw[ih];by_cases h1:c%8=m
  ·have e2:8*(c/8)+m=c:=zo;rw[e2,hg,ygX rfl,hc,h1,yfX (Nat.lt_irrefl _),ygX (ysZ _)];simp
  ·have e2:8*(c/8)+m≠c:=zo;rw[hg,yfX e2];by_cases h2:c%8<m
   ·rw[ygX h2,ygX (show c%8<m+1 by omega)];omega
   ·rw[yfX h2,yfX (show ¬c%8<m+1 by omega)];omega
theorem zol {f g:Nat->Bool} {c:Nat} (hc:f c=false) (hg:∀i,g i=if i=c then true else f i):zh4 g (c/8) 8=zh4 f (c/8) 8+2^(c%8):=by
 rw[zon f g c hc hg 8 (yhX _),ygX (Nat.mod_lt _ zo)]
theorem zlF {f g:Nat->Bool} {j:Nat}:∀m,m<=8->(∀k,k<8->g (8*j+k)=f (8*j+k))->zh4 g j m=zh4 f j m
 |0,_,_=>rfl
 |m+1,h,hg=>by
  unfold zh4;rw[zlF m zo hg,hg m zo]
def zlE (f:Nat->Bool) (j:Nat):UInt8:=UInt8.ofNat (zh4 f j 8)
theorem zdj (f:Nat->Bool) (j:Nat):(zlE f j).toNat=zh4 f j 8:=by
 have:=zks f j 8;unfold zlE;rw[y2Z];exact ydZ this
def zdi (n:Nat) (f:Nat->Bool):List UInt8:=(List.range n).map (zlE f)
def zb5 (n:Nat) (t:List Bool):List UInt8:=zdi n (at_ false t)
theorem ziX (n:Nat) (f:Nat->Bool):(zdi n f).length=n:=by simp[zdi]
theorem zlD (n:Nat) (f:Nat->Bool) (j:Nat) (h:j<n):at_ 0 (zdi n f) j=zlE f j:=by
 rw[zaS _ _ _ (by rw[ziX];exact h)];simp[zdi]
theorem ziW (n:Nat) (f g:Nat->Bool) (c:Nat) (b:UInt8) (hn:c/8<n) (hg:∀i,g i=if i=c then true else f i) (hb:b=zlE g (c/8)):(zdi n f).set (c/8) b=zdi n g:=by
 apply yMY (by simp[zdi]);intro j h1 h2
 have hj:j<n:=by simpa[zdi] using h2
 rw[List.getElem_set];split
 ·rename_i e;subst e;rw[hb];simp[zdi]
 ·rename_i e;simp only[zdi,List.getElem_map,List.getElem_range];unfold zlE;rw[zlF (f:=f) (g:=g) 8 (yhX _) (λk hk=>by rw[hg,yfX zo])]
theorem zw6 (x k:Nat) (h:x.testBit k=false):x|||2^k=x+2^k:=by
 rw[yIZ,Nat.or_comm];apply Nat.eq_of_testBit_eq;intro i;rw[y7Z,yVZ];by_cases hi:i<k
 ·rw[Nat.testBit_two_pow_add_gt hi];simp;intro h2;omega
 ·by_cases he:i=k
  ·subst he;rw[Nat.testBit_two_pow_add_eq,h];simp
  ·have hi:k<i:=zo;rw[show decide (k=i)=false by simp;omega,y4Y]
   obtain⟨d,rfl⟩:∃d,i=k+1+d:=⟨i-k-1,zo⟩
   rw[yfY,yfY]
   congr 2
   have hx:x/2^k%2=0:=by
    rw[yfY] at h;have:=of_decide_eq_false h;omega
   have e1:∀y:Nat,y/2^(k+1+d)=y/2^k/2/2^d:=by
    intro y;rw[Nat.pow_add,Nat.pow_succ,←Nat.div_div_eq_div_mul,←Nat.div_div_eq_div_mul]
   rw[e1,e1]
   congr 2
   have:(2^k+x)/2^k=x/2^k+1:=by
    rw[yIZ,Nat.add_div_right _ (Nat.two_pow_pos k)]
   rw[this];omega
theorem zvn (x k:Nat) (h:x.testBit k=true):x|||2^k=x:=by
 apply Nat.eq_of_testBit_eq;intro i;rw[y7Z,yVZ];by_cases he:k=i
 ·subst he;rw[h];rfl
 ·simp[he]
theorem zkU (n:Nat) (t:List Bool) (c:Nat) (hc:c<t.length) (hn:c/8<n):zkV (zb5 n t) c=zb5 n (t.set c true):=by
 have hg:∀i,at_ false (t.set c true) i=if i=c then true else at_ false t i:=λi=>by
  by_cases h:i=c
  ·subst h;rw[ygX rfl,zaj _ _ _ _ hc]
  ·rw[yfX h,zap _ _ _ _ _ (λe=>h e.symm)]
 unfold zkV zb5;refine ziW n _ _ c _ hn hg ?_;rw[zlD _ _ _ hn];have h8:c%8<8:=Nat.mod_lt _ zo;have hp:2^(c%8)<256:=ywY (Nat.pow_lt_pow_right zo h8) (yhX _)
 have hb:(zh4 (at_ false t) (c/8) 8).testBit (c%8)=at_ false t c:=by
  rw[zom _ _ _ _ h8,show 8*(c/8)+c%8=c by omega]
 apply yxZ.1;rw[UInt8.toNat_or,zdj,zdj,y2Z,ydZ hp]
 cases h:at_ false t c with
 |true=>
  rw[h] at hb;rw[zvn _ _ hb]
  have:at_ false (t.set c true)=at_ false t:=funext λi=>by
   rw[hg];split
   ·rename_i e;rw[e,h]
   ·rfl
  rw[this]
 |false=>
  rw[h] at hb;rw[zw6 _ _ hb,zol h hg]
theorem zlQ (n:Nat) (t:List Bool) (c:Nat) (hc:c<t.length) (hn:c/8<n) (ht:at_ false t c=true):
  ((zb5 n (t.take c)).set (c/8) (at_ 0 (zb5 n (t.take c)) (c/8)+UInt8.ofNat (2^(c%8))))=zb5 n (t.take (c+1)):=by
 have hz:at_ false (t.take c) c=false:=by
  unfold at_;rw[yyX (by simp;omega)];rfl
 have hg:∀i,at_ false (t.take (c+1)) i=if i=c then true else at_ false (t.take c) i:=λi=>by
  unfold at_ at ht⊢;rw[yNX,yNX];by_cases h:i=c
  ·subst h;rw[ygX rfl,ygX (ysZ _)];exact ht
  ·rw[yfX h];by_cases h2:i<c
   ·rw[ygX h2,ygX (show i<c+1 by omega)]
   ·rw[yfX h2,yfX (show ¬i<c+1 by omega)]
 unfold zb5;refine ziW n _ _ c _ hn hg ?_;rw[zlD _ _ _ hn];have h8:c%8<8:=Nat.mod_lt _ zo;have hp:2^(c%8)<256:=ywY (Nat.pow_lt_pow_right zo h8) (yhX _);apply yxZ.1;have h1:=zol hz hg;have h2:=zks (at_ false (t.take (c+1))) (c/8) 8;rw[UInt8.toNat_add,zdj,zdj,y2Z,ydZ hp,←h1,ydZ h2]
theorem zmx (n:Nat) (t:List Bool) (c:Nat) (ht:at_ false t c=false):zb5 n (t.take c)=zb5 n (t.take (c+1)):=by
 unfold zb5
 congr 1
 funext i
 unfold at_ at ht⊢;rw[yNX,yNX];by_cases h2:i<c
 ·rw[ygX h2,ygX (show i<c+1 by omega)]
 ·rw[yfX h2];by_cases h3:i=c
  ·subst h3;rw[ygX (ysZ _),ht];rfl
  ·rw[yfX (show ¬i<c+1 by omega)]
def runT (c:Int) (r:Run) (t:List Bool):List Bool:=it (λt k=>if r.s≠-1/\r.s+k<c then t.set (r.s+k).toNat true else t) t r.l.toNat
def zdM (c:Int) (l:List Run) (t:List Bool):List Bool:=it (λt i=>runT c (at_ Run.o l i) t) t l.length
def zpW (c:Int) (l:List Sm) (t:List Bool):List Bool:=it (λt i=>zdM c (at_ Sm.o l i).r t) t l.length
def zuJ (v:Pt):List Bool:=it (λt i=>zpW v.c (at_ Rc.o v.rs i).ss t) (zdM v.c v.al (List.replicate v.c.toNat false)) v.rs.length
theorem zcq {α:Type} {f:List α->Nat->List α} (hf:∀t k,(f t k).length=t.length) (t:List α):∀n,(it f t n).length=t.length
 |0=>rfl
 |n+1=>by show(f (it f t n) n).length=_;rw[hf,zcq hf t n]
theorem znr (c:Int) (r:Run) (t:List Bool):(runT c r t).length=t.length:=zcq (λt k=>by split<;>simp) t _
theorem zhi (c:Int) (l:List Run) (t:List Bool):(zdM c l t).length=t.length:=zcq (λt k=>znr _ _ _) t _
theorem zsy (c:Int) (l:List Sm) (t:List Bool):(zpW c l t).length=t.length:=zcq (λt k=>zhi _ _ _) t _
theorem zlk {S T:Type} {f:S->Nat->S} {g:T->Nat->T} (R:S->T->Prop) {s:S} {t:T} (h0:R s t):∀n,(∀s t k,k<n->R s t->R (f s k) (g t k))->R (it f s n) (it g t n)
 |0,_=>h0
 |n+1,h=>h _ _ n zo (zlk R h0 n λs t k hk=>h s t k zo)
def zeg (c:Int) (b:List UInt8) (t:List Bool):Prop:=b=zb5 ((c+7)/8).toNat t/\t.length=c.toNat
theorem zoT {c:Int} (r:Run) (hs: -1<=r.s) {b:List UInt8} {t:List Bool} (k:Nat) (h:zeg c b t):zeg c (zcV c r b k) (if r.s≠-1/\r.s+k<c then t.set (r.s+k).toNat true else t):=by
 obtain⟨rfl,hl⟩:=h;unfold zcV;split
 ·rename_i hc;refine⟨zkU _ _ _ zo zo,by simpa using hl⟩
 ·exact⟨rfl,hl⟩
theorem zlc {c:Int} (l:List Run) (hs:∀r∈l,-1<=r.s) {b:List UInt8} {t:List Bool} (h:zeg c b t):zeg c (mark c l b) (zdM c l t):=
 zlk (zeg c) h _ λb t i hi h=>zlk (zeg c) h _ λb t k _ h=>zoT _ (hs _ (at_mem _ _ _ hi)) k h
theorem zld {c:Int} (x:Rc) (hs:∀s∈x.ss,∀r∈s.r,-1<=r.s) {b:List UInt8} {t:List Bool} (h:zeg c b t):zeg c (zd2 c x b) (zpW c x.ss t):=
 zlk (zeg c) h _ λb t i hi h=>zlc _ (hs _ (at_mem _ _ _ hi)) h
theorem zpB (v:Pt) (ha:∀r∈v.al,-1<=r.s) (hs:∀x∈v.rs,∀s∈x.ss,∀r∈s.r,-1<=r.s):zeg v.c (used v) (zuJ v):=by
 refine zlk (zeg v.c) (zlc _ ha ⟨?_,by simp⟩) _ λb t i hi h=>zld _ (hs _ (at_mem _ _ _ hi)) h;unfold zb5 zdi;apply yMY (by simp);intro j h1 h2
 have e:zlE (at_ false (List.replicate v.c.toNat false)) j=0:=by
  apply yxZ.1;rw[zdj]
  have:∀m,zh4 (at_ false (List.replicate v.c.toNat false)) j m=0:=by
   intro m
   induction m with
   |zero=>rfl
   |succ m ih=>
    unfold zh4;rw[ih];unfold at_;rw[List.getElem?_replicate];split<;>rfl
  rw[this];rfl
 simp[e]
inductive Rch (v:Pt):Nat->Prop
 |root:Rch v 5
 |step {d:Nat} {x:En}:Rch v d->dir (at_ Rc.o v.rs d)=true->x∈(at_ Rc.o v.rs d).es->right v x.f=true->Rch v x.f.r.toNat
open Classical in
noncomputable def zsI (v:Pt) (i:Nat):Bool:=decide (Rch v i)
noncomputable def zmp (v:Pt):List Bool:=(List.range v.rs.length).map (zsI v)
theorem zgS (v:Pt):(zmp v).length=v.rs.length:=by simp[zmp]
theorem zmo (v:Pt) (i:Nat) (h:i<v.rs.length):at_ false (zmp v) i=zsI v i:=by
 rw[zaS _ _ _ (by rw[zgS];exact h)];simp[zmp]
theorem znw (v:Pt) (i:Nat):zsI v i=true↔Rch v i:=by unfold zsI;simp
theorem zw0 (v:Pt) (L:List Bool) (hl:L.length=v.rs.length) (h1:∀i,at_ false L i=true->Rch v i) (h5:at_ false L 5=true)
  (hc:∀d:Nat,at_ false L d=true->dir (at_ Rc.o v.rs d)=true->∀x∈(at_ Rc.o v.rs d).es,right v x.f=true->at_ false L x.f.r.toNat=true):L=zmp v:=by
 have h2:∀i,Rch v i->at_ false L i=true:=by
  intro i hi
  induction hi with
  |root=>exact h5
  |step _ hd hx hr ih=>exact hc _ ih hd _ hx hr
 apply yMY (by rw[zgS];exact hl);intro i h3 h4;have e1:at_ false L i=L[i]:=zaS _ _ _ h3
 have e2:(zmp v)[i]=zsI v i:=by rw[←zmo v i zo,zaS _ _ _ h4]
 rw[e2,←e1]
 cases h:at_ false L i with
 |true=>exact((znw v i).2 (h1 i h)).symm
 |false=>
  cases h':zsI v i with
  |false=>rfl
  |true=>rw[h2 i ((znw v i).1 h')] at h;cases h
end Ck
namespace Ck
theorem zdo {v:Pt} {r:Ref} (h:right v r=true):0<=r.r/\r.r.toNat<v.rs.length:=by
 unfold right wi at h;simp only[ykX,yDX] at h;omega
def cntF :List Bool->Nat
 |[]=>0
 |b::l=>(if b then 0 else 1)+cntF l
theorem zdz :∀(l:List Bool) (i:Nat),i<l.length->at_ false l i=false->cntF (l.set i true)+1=cntF l
 |[],i,h,_=>by simp at h
 |b::l,0,_,h0=>by
  have:b=false:=h0;subst this;simp[cntF];omega
 |b::l,i+1,h,h0=>by
  have:=zdz l i (by simpa using h) (by simpa[at_] using h0);simp only[y4Z,cntF];omega
theorem zfJ (l:List Bool) (i j:Nat):at_ false (l.set i true) j=true->at_ false l j=true∨j=i:=by
 intro h;by_cases e:i=j
 ·exact .inr e.symm
 ·rw[zap _ _ _ _ _ e] at h;exact .inl h
theorem zb9 (l:List Bool) (i j:Nat) (h:at_ false l j=true):at_ false (l.set i true) j=true:=by
 have hj:j<l.length:=by
  unfold at_ at h
  rcases yeY j l.length with h1|h1
  ·exact h1
  ·rw[yyX h1] at h;cases h
 by_cases e:i=j
 ·subst e;rw[zaj _ _ _ _ hj]
 ·rw[zap _ _ _ _ _ e];exact h
structure Mks (v:Pt) (L:List Bool):Prop where
 len:L.length=v.rs.length
 snd:∀i,at_ false L i=true->Rch v i
 r5:at_ false L 5=true
def zhJ (v:Pt):List Bool:=(List.replicate v.rs.length false).set 5 true
theorem zql (n i:Nat):at_ false (List.replicate n false) i=false:=by
 unfold at_;rw[List.getElem?_replicate];split<;>rfl
theorem Mks.start {v:Pt} (h:5<v.rs.length):Mks v (zhJ v):=by
 refine⟨by simp[zhJ],λi hi=> ?_,zaj _ _ _ _ (by simpa using h)⟩
 rcases zfJ _ _ _ hi with h1|h1
 ·rw[zql] at h1;cases h1
 ·subst h1;exact .root
theorem Mks.set {v:Pt} {L:List Bool} (h:Mks v L) {d:Nat} {x:En} (hd:Rch v d) (hdir:dir (at_ Rc.o v.rs d)=true) (hx:x∈(at_ Rc.o v.rs d).es) (hr:right v x.f=true):Mks v (L.set x.f.r.toNat true):=
 ⟨by simpa using h.len,λi hi=>by
  rcases zfJ _ _ _ hi with h1|h1
  ·exact h.snd i h1
  ·subst h1;exact .step hd hdir hx hr,zb9 _ _ _ h.r5⟩
def Clo (v:Pt) (L:List Bool) (d:Nat):Prop:=at_ false L d=true->dir (at_ Rc.o v.rs d)=true->∀x∈(at_ Rc.o v.rs d).es,right v x.f=true->at_ false L x.f.r.toNat=true
theorem Mks.fin {v:Pt} {L:List Bool} (h:Mks v L) (hc:∀d,d<v.rs.length->Clo v L d):L=zmp v:=
 zw0 v L h.len h.snd h.r5 λd h1 h2 x hx hr=>by
  have hd:d<v.rs.length:=by
   rcases yeY d v.rs.length with h3|h3
   ·exact h3
   ·unfold at_ at h1;rw[yyX (by rw[h.len];exact h3)] at h1;cases h1
  exact hc d hd h1 h2 x hx hr
structure Rnd (v:Pt) (L0 L:List Bool) (ag:Bool):Prop where
 m:Mks v L
 f:ag=false->L=L0
 t:ag=true->cntF L<cntF L0
theorem Rnd.start {v:Pt} {L:List Bool} (h:Mks v L):Rnd v L L false:=⟨h,λ_=>rfl,λh=>(by cases h)⟩
theorem Rnd.set {v:Pt} {L0 L:List Bool} {ag:Bool} (h:Rnd v L0 L ag) {d:Nat} {x:En} (hd:Rch v d) (hdir:dir (at_ Rc.o v.rs d)=true) (hx:x∈(at_ Rc.o v.rs d).es) (hr:right v x.f=true) (hn:at_ false L x.f.r.toNat=false):Rnd v L0 (L.set x.f.r.toNat true) true:=by
 refine⟨h.m.set hd hdir hx hr,λh=>(by cases h),λ_=> ?_⟩;have h1:=zdz L x.f.r.toNat (by rw[h.m.len];exact(zdo hr).2) hn
 cases ag with
 |false=>have:=h.f rfl;subst this;omega
 |true=>have:=h.t rfl;omega
structure Que (v:Pt) (L:List Bool) (Q:List Int):Prop where
 m:Mks v L
 q:∀d∈Q,0<=d/\d.toNat<v.rs.length/\at_ false L d.toNat=true/\dir (at_ Rc.o v.rs d.toNat)=true
 c:∀d:Nat,(d:Int)∈Q∨Clo v L d
theorem Que.start {v:Pt} (h:5<v.rs.length) (hd:dir (at_ Rc.o v.rs 5)=true):Que v (zhJ v) [5]:=by
 refine⟨.start h,λd hd2=> ?_,λd=> ?_⟩
 ·simp only[yiX] at hd2;subst hd2;exact⟨zo,h,(Mks.start h).r5,hd⟩
 ·by_cases e:d=5
  ·subst e;exact .inl (by simp)
  ·refine .inr λh1=> ?_
   rcases zfJ _ _ _ h1 with h2|h2
   ·rw[zql] at h2;cases h2
   ·exact absurd h2 e
structure Mid (v:Pt) (d:Nat) (k:Nat) (L:List Bool) (Q:List Int):Prop where
 m:Mks v L
 hd:at_ false L d=true
 hdir:dir (at_ Rc.o v.rs d)=true
 q:∀d∈Q,0<=d/\d.toNat<v.rs.length/\at_ false L d.toNat=true/\dir (at_ Rc.o v.rs d.toNat)=true
 c:∀e:Nat,e≠d->(e:Int)∈Q∨Clo v L e
 k:∀j,j<k->right v (at_ En.o (at_ Rc.o v.rs d).es j).f=true->at_ false L (at_ En.o (at_ Rc.o v.rs d).es j).f.r.toNat=true
theorem Que.pop {v:Pt} {L:List Bool} {d:Int} {Q:List Int} (h:Que v L (d::Q)):Mid v d.toNat 0 L Q:=by
 obtain⟨h0,h1,h2,h3⟩:=h.q d (by simp);refine⟨h.m,h2,h3,λe he=>h.q e (by simp[he]),λe he=> ?_,λj hj=>absurd hj (ypX _)⟩
 rcases h.c e with h4|h4
 ·rcases yAX.1 h4 with h5|h5
  ·exact absurd zo he
  ·exact .inl h5
 ·exact .inr h4
theorem Mid.skip {v:Pt} {d k:Nat} {L:List Bool} {Q:List Int} (h:Mid v d k L Q) (hs:right v (at_ En.o (at_ Rc.o v.rs d).es k).f=true->at_ false L (at_ En.o (at_ Rc.o v.rs d).es k).f.r.toNat=true):Mid v d (k+1) L Q:=
 ⟨h.m,h.hd,h.hdir,h.q,h.c,λj hj hr=>by
  rcases yeY j k with h1|h1
  ·exact h.k j h1 hr
  ·obtain rfl:j=k:=zo
   exact hs hr⟩
theorem Mid.set {v:Pt} {d k:Nat} {L:List Bool} {Q:List Int} (h:Mid v d k L Q) {x:En} (hx:x=at_ En.o (at_ Rc.o v.rs d).es k) (hk:k<(at_ Rc.o v.rs d).es.length) (hr:right v x.f=true) (hn:at_ false L x.f.r.toNat=false):
  Mid v d (k+1) (L.set x.f.r.toNat true) (if dir (at_ Rc.o v.rs x.f.r.toNat) then Q++[x.f.r] else Q):=by
 have hm:x∈(at_ Rc.o v.rs d).es:=by rw[hx];exact at_mem _ _ _ hk
 have hl:=zdo hr
 have hl2:x.f.r.toNat<L.length:=by rw[h.m.len];exact hl.2
 have hq:∀e∈(if dir (at_ Rc.o v.rs x.f.r.toNat) then Q++[x.f.r] else Q),e∈Q∨(e=x.f.r/\dir (at_ Rc.o v.rs x.f.r.toNat)=true):=λe he=>by
  split at he
  ·rename_i h1
   rcases yRX.1 he with h2|h2
   ·exact .inl h2
   ·exact .inr ⟨by simpa using h2,h1⟩
  ·exact .inl he
 have hq2:∀e∈Q,e∈(if dir (at_ Rc.o v.rs x.f.r.toNat) then Q++[x.f.r] else Q):=λe he=>by
  split
  ·exact yUX _ he
  ·exact he
 refine⟨h.m.set (h.m.snd _ h.hd) h.hdir hm hr,zb9 _ _ _ h.hd,h.hdir,λe he=> ?_,λe he=> ?_,λj hj hrj=> ?_⟩
 ·rcases hq e he with h1|⟨h1,h2⟩
  ·obtain⟨q1,q2,q3,q4⟩:=h.q e h1;exact⟨q1,q2,zb9 _ _ _ q3,q4⟩
  ·subst h1;exact⟨hl.1,hl.2,zaj _ _ _ _ hl2,h2⟩
 ·rcases h.c e he with h1|h1
  ·exact .inl (hq2 _ h1)
  ·by_cases e1:e=x.f.r.toNat
   ·by_cases e2:dir (at_ Rc.o v.rs x.f.r.toNat)=true
    ·refine .inl ?_;rw[ygX e2];exact y6X _ (by simp;omega)
    ·refine .inr λ_ h3=> ?_;rw[e1] at h3;exact absurd h3 e2
   ·refine .inr λh2 h3 y hy hr2=> ?_
    rcases zfJ _ _ _ h2 with h4|h4
    ·exact zb9 _ _ _ (h1 h4 h3 y hy hr2)
    ·exact absurd h4 e1
 ·rcases yeY j k with h1|h1
  ·exact zb9 _ _ _ (h.k j h1 hrj)
  ·obtain rfl:j=k:=zo;rw[←hx];exact zaj _ _ _ _ hl2
theorem Mid.fin {v:Pt} {d k:Nat} {L:List Bool} {Q:List Int} (h:Mid v d k L Q) (hk:k=(at_ Rc.o v.rs d).es.length):Que v L Q:=by
 refine⟨h.m,h.q,λe=> ?_⟩;by_cases he:e=d
 ·subst he;refine .inr λ_ _ x hx hr=> ?_;obtain⟨j,hj,rfl⟩:=yTX hx;have:=h.k j zo;rw[zaS _ _ _ hj] at this;exact this hr
 ·exact h.c e he
theorem Que.fin {v:Pt} {L:List Bool} (h:Que v L []):L=zmp v:=h.m.fin λd _=>by
 rcases h.c d with h1|h1
 ·cases h1
 ·exact h1
theorem zqf (c:Int) (r:Run) (t:List Bool) (n:Nat) (hn:n<=r.l.toNat) (h:∀k:Nat,n<=k->¬(r.s≠-1/\r.s+k<c)):
  it (λt k=>if r.s≠-1/\r.s+k<c then t.set (r.s+k).toNat true else t) t n=runT c r t:=by
 obtain⟨j,hj⟩:∃j,r.l.toNat=n+j:=⟨r.l.toNat-n,zo⟩
 unfold runT;rw[hj];clear hj hn
 induction j with
 |zero=>rfl
 |succ j ih=>
  show _=(if r.s≠-1/\r.s+(n+j:Nat)<c then _ else _)
  rw[yfX (h (n+j) zo)];exact ih
theorem zpc (n:Nat):zb5 n []=List.replicate n 0:=by
 unfold zb5 zdi;apply yMY (by simp);intro j h1 h2
 have e:zlE (at_ false []) j=0:=by
  apply yxZ.1;rw[zdj]
  have:∀m,zh4 (at_ false []) j m=0:=by
   intro m
   induction m with
   |zero=>rfl
   |succ m ih=>unfold zh4;rw[ih];rfl
  rw[this];rfl
 simp[e]
theorem zpd (n:Nat) (t:List Bool):(zb5 n t).length=n:=ziX _ _
end Ck
namespace Ck
open Go Go.Ex
theorem zdB :∀l:List UInt8,bytesOf (l.map zbf)= .ok l
 |[]=>rfl
 |x::l=>by
  show bd (bytesOf (l.map zbf)) (λl=> .ok (UInt8.ofNat (x.toNat:Int).toNat::l))=_;rw[zdB l];simp[bd]
theorem zyj (a:UInt8) (n:Int) (h0:0<=n) (h8:n<8):zfH .or .u8 (a.toNat:Int) (zuZ .u8 1 n)=((a|||UInt8.ofNat (2^n.toNat)).toNat:Int):=by
 have hk:∃k:Nat,k<8/\n=k:=⟨n.toNat,zo,zo⟩
 obtain⟨k,hk,rfl⟩:=hk
 have key:∀k:Fin 8,∀a:Fin 256,zfH .or .u8 ((a:Nat):Int) (zuZ .u8 1 ((k:Nat):Int))=(((UInt8.ofNat a.1)|||UInt8.ofNat (2^k.1)).toNat:Int):=by decide+kernel
 have:=key ⟨k,hk⟩ ⟨a.toNat,a.toNat_lt⟩;simpa using this
end Ck
namespace Go.Proofs.YtgcjejajljhnaaaGreatDoor
open Go.Ex Ck
set_option maxRecDepth 100000
set_option maxHeartbeats 1000000
theorem zkL {c:Int} (h:0<=c):c.tdiv 8=((c.toNat/8:Nat):Int):=by
 rw[yGY h];omega
theorem zl4 {c:Int} (h:0<=c):c.tmod 8=((c.toNat%8:Nat):Int):=by
 rw[ymY h];omega
theorem zoC (t:List UInt8) (c:Nat):(zkV t c).length=t.length:=by simp[zkV]
theorem zqU (c:Int) (r:Run) (t:List UInt8) (k:Nat):(zcV c r t k).length=t.length:=by unfold zcV;split<;>simp[zoC]
theorem ziG (c:Int) (r:Run) (t:List UInt8) (n:Nat):(it (zcV c r) t n).length=t.length:=zcq (zqU c r) t n
theorem zfx (c:Int) (l:List Run) (t:List UInt8) (n:Nat):(it (λt i=>it (zcV c (at_ Run.o l i)) t (at_ Run.o l i).l.toNat) t n).length=t.length:=zcq (λt k=>ziG c _ t _) t n
theorem zqT (v:Pt) (l:List Run) (b:List UInt8) (N:Nat) (hb:b.length=N) (hN:N=((v.c+7)/8).toNat) (hc:0<=v.c/\v.c<=100000) (hl:l.length<=100000) (hr:∀r∈l,-1<=r.s/\r.s<=2147483647/\r.l<=100000):
  HC Tryz.prog 3 125 [LS 2 zaP Run.o l, .ptr 0 0, .ptr 1 0] [.row (aPt v) 26 0, .row [.sl 2 0 N N] 117 0, .row (b.map zbf) 5 0] (.tup []) [.row (aPt v) 26 0, .row [.sl 2 0 N N] 117 0, .row ((Ck.mark v.c l b).map zbf) 5 0]:=by
 refine HC.of zal (yhX 3) ?_
 conv=>whnf
 refine Ex.wl l.length (λd=>zag [(0,LS 2 zaP Run.o l),(1, .ptr 0 0),(2, .ptr 1 0),(8,LS 2 zaP Run.o l),(9,ib l.length),(10,ib d)] 44) (λd=>zan [.row (aPt v) 26 0, .row [.sl 2 0 N N] 117 0, .row ((it (λt i=>it (zcV v.c (at_ Run.o l i)) t (at_ Run.o l i).l.toNat) b d).map zbf) 5 0]) ?_ ?_
 ·exact Ex.wO [0,1,2] []
 ·intro d hd
  conv=>whnf
  refine yPX (λh=> ?_) (λh=> ?_)
  ·have hlt:d<l.length:=zo;have hm:=hr _ (at_mem Run.o l d hlt);refine Ex.go ?_;refine Ex.wl ((at_ Run.o l d).l.toNat) (λk=>zag [(0,LS 2 zaP Run.o l),(1, .ptr 0 0),(2, .ptr 1 0),(5, .ptr 3 0),(8,LS 2 zaP Run.o l),(9,ib l.length),(10,ib d),(15,ib (at_ Run.o l d).l),(16,ib k)] 44) (λk=>zan [.row (aPt v) 26 0, .row [.sl 2 0 N N] 117 0, .row ((it (zcV v.c (at_ Run.o l d)) (it (λt i=>it (zcV v.c (at_ Run.o l i)) t (at_ Run.o l i).l.toNat) b d) k).map zbf) 5 0, .row [ib (at_ Run.o l d).s,ib (at_ Run.o l d).l] 78 0]) ?_ ?_
   ·exact Ex.wO [0,1,2,3] []
   ·intro k hk;have hbl:=zfx v.c l b d;have hout:it (λt i=>it (zcV v.c (at_ Run.o l i)) t (at_ Run.o l i).l.toNat) b (d+1)=it (zcV v.c (at_ Run.o l d)) (it (λt i=>it (zcV v.c (at_ Run.o l i)) t (at_ Run.o l i).l.toNat) b d) (at_ Run.o l d).l.toNat:=rfl
    generalize it (λt i=>it (zcV v.c (at_ Run.o l i)) t (at_ Run.o l i).l.toNat) b d=b1 at*
    have hb2:(it (zcV v.c (at_ Run.o l d)) b1 k).length=N:=by rw[ziG,hbl,hb]
    have hstep:it (zcV v.c (at_ Run.o l d)) b1 (k+1)=zcV v.c (at_ Run.o l d) (it (zcV v.c (at_ Run.o l d)) b1 k) k:=rfl
    obtain⟨b2,hb2'⟩:∃b2,b2=it (zcV v.c (at_ Run.o l d)) b1 k:=⟨_,rfl⟩
    rw[←hb2'] at hb2 hstep;dsimp only;rw[←hb2']
    conv=>whnf
    refine yPX (λh2=> ?_) (λh2=> ?_)
    ·have hk2:k+1<=(at_ Run.o l d).l.toNat:=zo;by_cases hs:(at_ Run.o l d).s= -1
     ·have e2:zcV v.c (at_ Run.o l d) b2 k=b2:=yfX (λh=>h.1 hs)
      (conv=>whnf);repeat(first|refine Ex.g ?_|refine KIf.f (yqX Bool.not (ybX hs)) ?_);conv=>whnf
      refine⟨k+1,hk2,by dsimp only;omega,?_⟩;dsimp only;rw[hstep,e2];exact Ex.wO [0,1,2,3] []
     ·by_cases hcc:(at_ Run.o l d).s+k<v.c
      ·have hp:0<=(at_ Run.o l d).s+k:=zo
       have hix:(0:Int)<=((at_ Run.o l d).s+k).tdiv 8/\((at_ Run.o l d).s+k).tdiv 8<N:=by rw[zkL hp];omega
       have hq:(8:Int)≠0/\Small (((at_ Run.o l d).s+k).tdiv 8):=⟨zo,by unfold Small;rw[zkL hp];omega⟩
       have hm8:0<=((at_ Run.o l d).s+(k:Int)).tmod 8:=by rw[zl4 hp];omega
       have hm88:((at_ Run.o l d).s+(k:Int)).tmod 8<8:=by rw[zl4 hp];omega
       have hj:((at_ Run.o l d).s+(k:Int)).toNat/8<b2.length:=by rw[hb2];omega
       have hoff:0+(((at_ Run.o l d).s+(k:Int)).tdiv 8).toNat*1=((at_ Run.o l d).s+(k:Int)).toNat/8:=by rw[zkL hp];omega
       have e2:zcV v.c (at_ Run.o l d) b2 k=b2.set (((at_ Run.o l d).s+(k:Int)).toNat/8) (at_ 0 b2 (((at_ Run.o l d).s+(k:Int)).toNat/8)|||UInt8.ofNat (2^(((at_ Run.o l d).s+(k:Int)).toNat%8))):=ygX ⟨hs,hcc⟩
       have hv:AV.sc (.int .u8 (zfH .or .u8 (at_ 0 b2 (((at_ Run.o l d).s+(k:Int)).toNat/8)).toNat (zuZ .u8 1 (((at_ Run.o l d).s+(k:Int)).tmod 8))))=zbf (at_ 0 b2 (((at_ Run.o l d).s+(k:Int)).toNat/8)|||UInt8.ofNat (2^(((at_ Run.o l d).s+(k:Int)).toNat%8))):=by
        rw[zyj _ _ hm8 hm88,zl4 hp];rfl
       (conv=>whnf);repeat(first|refine Ex.g ?_|refine KIf.t (yqX Bool.not (ycX hs)) ?_|refine RK.of (Ck.zyp zbf 0 hoff rfl rfl hj) ?_|refine ytY zbf _ hv hoff rfl rfl rfl rfl rfl hj ?_);conv=>whnf
       refine⟨k+1,hk2,by dsimp only;omega,?_⟩;dsimp only;rw[hstep,e2];exact Ex.wO [0,1,2,3] []
      ·have e2:zcV v.c (at_ Run.o l d) b2 k=b2:=yfX (λh=>hcc h.2)
       (conv=>whnf);repeat(first|refine Ex.g ?_|refine KIf.t (yqX Bool.not (ycX hs)) ?_);conv=>whnf
       refine⟨k+1,hk2,by dsimp only;omega,?_⟩;dsimp only;rw[hstep,e2];exact Ex.wO [0,1,2,3] []
    ·have hke:k=(at_ Run.o l d).l.toNat:=zo;refine Ex.go ?_;refine⟨d+1,hlt,by dsimp only;omega,?_⟩;dsimp only;rw[hout,←hke,←hb2'];exact Ex.wO [0,1,2] []
  ·have hde:d=l.length:=zo;subst hde;refine Ex.go ?_
   (refine⟨[0,1,2],[],rfl,?_,?_⟩<;>(repeat' first|exact zT|refine zA ?_ ?_)<;>(conv=>whnf)<;>((first|exact Or.inr ⟨rfl,rfl⟩|exact Or.inr ⟨rfl,yyY (λ_=>rfl) _⟩|(refine Or.inl ⟨rfl,?_⟩;(conv=>whnf);(repeat' first|exact zT|exact rfl|refine zA ?_ ?_)<;>(try(conv=>whnf))))))
def RunOk (r:Run):Prop:= -1<=r.s/\r.s<=2147483647/\r.l<=100000
structure Okv (v:Pt):Prop where
 c:0<=v.c/\v.c<=100000
 rs:v.rs.length<=100000
 ss:∀x∈v.rs,x.ss.length<=100000
 al:v.al.length<=100000
 ar:∀r∈v.al,RunOk r
 sr:∀x∈v.rs,∀s∈x.ss,s.r.length<=100000/\∀r∈s.r,RunOk r
theorem zgY (c:Int) (l:List Run) (t:List UInt8):(Ck.mark c l t).length=t.length:=zfx c l t _
theorem zhK (c:Int) (x:Rc) (t:List UInt8) (n:Nat):(it (λt k=>Ck.mark c (at_ Sm.o x.ss k).r t) t n).length=t.length:=zcq (λt k=>zgY c _ t) t n
theorem zd1 (c:Int) (l:List Rc) (t:List UInt8) (n:Nat):(it (λt i=>zd2 c (at_ Rc.o l i) t) t n).length=t.length:=zcq (λt k=>zhK c _ t _) t n
theorem zwv (v:Pt) (hv:Okv v):PureC Tryz.prog 75 [zbF v] (tb (Ck.used v)):=by
 have hc:=hv.c;have hn:=hv.rs
 obtain⟨N,hN⟩:∃N,N=((v.c+7)/8).toNat:=⟨_,rfl⟩
 have h7:(v.c+7).tdiv 8=(N:Int):=by rw[zkL zo,hN];omega
 have h77:(8:Int)≠0/\Small ((v.c+7).tdiv 8):=⟨zo,by unfold Small;rw[h7];omega⟩
 have hmk:0<=(v.c+7).tdiv 8/\(v.c+7).tdiv 8<=(v.c+7).tdiv 8/\((v.c+7).tdiv 8).toNat*1<=2^47/\(v.c+7).tdiv 8<=2^60:=by rw[h7];refine⟨?_,?_,?_,?_⟩<;>omega
 have hz:zc8 ((v.c+7).tdiv 8).toNat (.int .u8 0)=(List.replicate N (0:UInt8)).map zbf:=by
  rw[h7,zcE (x:= .sc (.int .u8 0)) _ _ rfl];simp[zbf]
 have hb0:(List.replicate N (0:UInt8)).length=N:=by simp
 refine ytX zal rfl ?_
 (conv=>whnf);repeat((refine Ex.g ?_;conv=>whnf))
 (refine KCall.lf [0,2,1] [] (.tup []) [.row (aPt v) 26 0, .row [.sl 1 0 N N] 117 0, .row ((Ck.mark v.c v.al (List.replicate N 0)).map zbf) 5 0] (zqT v v.al (List.replicate N 0) N hb0 hN hc hv.al hv.ar) ?_ (hrows:=by((repeat' first|exact zT|refine zA ?_ ?_)<;>(conv=>whnf)<;>((first|exact Or.inr ⟨hz.symm,hz▸y4X (enc:=zbf) (λ_=>rfl) _⟩|(first|exact Or.inr ⟨rfl,rfl⟩|(refine Or.inl ⟨rfl,?_⟩;(conv=>whnf);(repeat' first|exact zT|exact rfl|refine zA ?_ ?_)<;>(try(conv=>whnf))<;>(omega)))))));(conv=>whnf))
 have hl0:(Ck.mark v.c v.al (List.replicate N 0)).length=N:=by rw[zgY,hb0]
 have hfin:Ck.used v=it (λt i=>zd2 v.c (at_ Rc.o v.rs i) t) (Ck.mark v.c v.al (List.replicate N 0)) v.rs.length:=by rw[hN];rfl
 generalize Ck.mark v.c v.al (List.replicate N 0)=B at*
 refine Ex.go ?_;refine Ex.wl v.rs.length (λd=>zag [(1, .ptr 0 0),(3, .ptr 2 0),(4, .fn (.func 125) [] [.ptr 0 0, .ptr 2 0]),(20,LS 10 aRc Rc.o v.rs),(21,ib v.rs.length),(22,ib d)] 41) (λd=>zan [.row (aPt v) 26 0, .row ((it (λt i=>zd2 v.c (at_ Rc.o v.rs i) t) B d).map zbf) 5 0, .row [.sl 1 0 N N] 117 0]) ?_ ?_
 ·exact Ex.wO [0,1,2] []
 ·intro d hd;have hbl:=zd1 v.c v.rs B d;have hout:it (λt i=>zd2 v.c (at_ Rc.o v.rs i) t) B (d+1)=it (λt k=>Ck.mark v.c (at_ Sm.o (at_ Rc.o v.rs d).ss k).r t) (it (λt i=>zd2 v.c (at_ Rc.o v.rs i) t) B d) (at_ Rc.o v.rs d).ss.length:=rfl
  obtain⟨b1,hb1⟩:∃b1,b1=it (λt i=>zd2 v.c (at_ Rc.o v.rs i) t) B d:=⟨_,rfl⟩
  rw[←hb1] at hbl hout;dsimp only;rw[←hb1]
  conv=>whnf
  refine yPX (λh=> ?_) (λh=> ?_)
  ·have hlt:d<v.rs.length:=zo;have hm:=at_mem Rc.o v.rs d hlt;have hss:=hv.ss _ hm;refine Ex.go ?_;refine Ex.wl ((at_ Rc.o v.rs d).ss.length) (λk=>zag [(1, .ptr 0 0),(3, .ptr 2 0),(4, .fn (.func 125) [] [.ptr 0 0, .ptr 2 0]),(20,LS 10 aRc Rc.o v.rs),(21,ib v.rs.length),(22,ib d),(27,LS 2 aSm Sm.o (at_ Rc.o v.rs d).ss),(28,ib (at_ Rc.o v.rs d).ss.length),(29,ib k)] 41) (λk=>zan [.row (aPt v) 26 0, .row ((it (λt k=>Ck.mark v.c (at_ Sm.o (at_ Rc.o v.rs d).ss k).r t) b1 k).map zbf) 5 0, .row [.sl 1 0 N N] 117 0]) ?_ ?_
   ·exact Ex.wO [0,1,2] []
   ·intro k hk;have hbl2:=zhK v.c (at_ Rc.o v.rs d) b1 k;have hstep:it (λt k=>Ck.mark v.c (at_ Sm.o (at_ Rc.o v.rs d).ss k).r t) b1 (k+1)=Ck.mark v.c (at_ Sm.o (at_ Rc.o v.rs d).ss k).r (it (λt k=>Ck.mark v.c (at_ Sm.o (at_ Rc.o v.rs d).ss k).r t) b1 k):=rfl
    obtain⟨b2,hb2⟩:∃b2,b2=it (λt k=>Ck.mark v.c (at_ Sm.o (at_ Rc.o v.rs d).ss k).r t) b1 k:=⟨_,rfl⟩
    rw[←hb2] at hbl2 hstep;dsimp only;rw[←hb2]
    conv=>whnf
    refine yPX (λh2=> ?_) (λh2=> ?_)
    ·have hk2:k<(at_ Rc.o v.rs d).ss.length:=zo;have hsr:=hv.sr _ hm _ (at_mem Sm.o _ k hk2);refine Ex.go ?_
     (refine KCall.lf [0,2,1] [] (.tup []) [.row (aPt v) 26 0, .row [.sl 1 0 N N] 117 0, .row ((Ck.mark v.c (at_ Sm.o (at_ Rc.o v.rs d).ss k).r b2).map zbf) 5 0] (zqT v (at_ Sm.o (at_ Rc.o v.rs d).ss k).r b2 N zo hN hc hsr.1 hsr.2) ?_ (hrows:=by((repeat' first|exact zT|refine zA ?_ ?_)<;>(conv=>whnf)<;>((first|exact Or.inr ⟨rfl,rfl⟩|exact Or.inr ⟨rfl,yyY (λ_=>rfl) _⟩|(refine Or.inl ⟨rfl,?_⟩;(conv=>whnf);(repeat' first|exact zT|exact rfl|refine zA ?_ ?_)<;>(try(conv=>whnf)))))));(conv=>whnf))
     refine Ex.go ?_;refine⟨k+1,hk2,by dsimp only;omega,?_⟩;dsimp only;rw[hstep];exact Ex.wO [0,1,2] []
    ·have hke:k=(at_ Rc.o v.rs d).ss.length:=zo;refine Ex.go ?_;refine⟨d+1,hlt,by dsimp only;omega,?_⟩;dsimp only;rw[hout,←hke,←hb2];exact Ex.wO [0,1,2] []
  ·have hde:d=v.rs.length:=zo
   (conv=>whnf);repeat(first|refine RK.of (zhM (enc:=zbf) (l:=b1) rfl zo) ?_|refine RK.of (zdB b1) ?_);conv=>whnf
   (refine .z [] ?_;conv=>whnf);(repeat'(fail))<;>(try(conv=>whnf))<;>((rw[hfin,←hde];exact hb1.symm))
end Go.Proofs.YtgcjejajljhnaaaGreatDoor
namespace Ck
theorem zww (c:UInt8) (h:c.toNat<128):at_ 0 ((List.range 128).map λi=>upB (UInt8.ofNat i)) c.toNat=upB c:=by
 rw[zxJ (λi=>upB (UInt8.ofNat i)) 0 0 (List.range 128) c.toNat (by simpa using h),zaS 0 _ _ (by simpa using h),List.getElem_range]
 congr 1
 exact yCZ
theorem zjK {α:Type} (f:α->α) (o:α) (s:List α) (d:Nat) (h:d<s.length):((s.take d).map f++s.drop d).set d (f (at_ o s d))=(s.take (d+1)).map f++s.drop (d+1):=by
 have hl:((s.take d).map f).length=d:=by simp;omega
 rw[List.set_append_right _ _ zo,hl,yQY,drop_at o s d h,y3Z,zi9 o s d h,yJY];simp
theorem zlN {α:Type} (f:α->α) (o:α) (s:List α) (d:Nat) (h:d<s.length):at_ o ((s.take d).map f++s.drop d) d=at_ o s d:=by
 have hl:((s.take d).map f).length=d:=by simp;omega
 unfold at_;rw[yuX zo,hl,yQY,y8X,yvZ]
end Ck
namespace Go.Proofs.YtgcjejajljhnaaaGreatDoor
open Go.Ex Ck
set_option maxRecDepth 100000
set_option maxHeartbeats 4000000
theorem zuK (s t:List UInt8) (hs:s.length<=100000) (h:∀b∈s,b.toNat<128) (ht:t=(List.range 128).map λi=>Ck.upB (UInt8.ofNat i)):PureC Tryz.prog 231 [tb t,tb s] (tb (s.map Ck.upB)):=by
 have htl:t.length=128:=by rw[ht];simp
 refine ytX zal rfl ?_;refine Ex.go ?_;refine Ex.wl s.length (λd=>zag [(0,tb t),(5, .so 0 0 s.length 0),(10, .so 0 0 s.length 0),(11,ib s.length),(12,ib d)] 26) (λd=>zan [.row (((s.take d).map Ck.upB++s.drop d).map zbf) 5 1]) ?_ ?_
 ·exact Ex.wO [0] []
 ·intro d hd
  have hlen:((s.take d).map Ck.upB++s.drop d).length=s.length:=by simp;omega
  have hat:=λh=>zlN Ck.upB 0 s d h;have hst:=λh=>zjK Ck.upB 0 s d h
  have hend:d=s.length->(s.take d).map Ck.upB++s.drop d=s.map Ck.upB:=λe=>by rw[e];simp
  generalize (s.take d).map Ck.upB++s.drop d=L at*
  refine Ex.go ?_;refine yPX (λhl=> ?_) (λhl=> ?_)
  ·have hlt:d<s.length:=zo
   have hoff:0+((d:Nat):Int).toNat*1=d:=by simp
   have hj:d<L.length:=zo;have hb:=h _ (at_mem 0 s d hlt)
   have hix:(0:Int)<=((at_ 0 s d).toNat:Nat)/\(((at_ 0 s d).toNat:Nat):Int)<(t.length:Nat):=⟨zo,zo⟩
   have hv:AV.sc (.int .u8 ((gd 0 t (((at_ 0 s d).toNat:Nat):Int).toNat).toNat:Nat))=zbf (Ck.upB (at_ 0 s d)):=by rw[yrX,show gd 0 t (at_ 0 s d).toNat=at_ 0 t (at_ 0 s d).toNat from rfl,ht,zww _ hb];rfl
   (conv=>whnf);repeat(first|refine Need.mk ?_ ?_;exact hix|refine RK.of (yjY zbf 0 _ (hat hlt) hoff rfl rfl hj) ?_|refine ytY zbf (Ck.upB (at_ 0 s d)) ?_ hoff rfl rfl rfl rfl rfl hj ?_;exact hv|refine Ex.g ?_);conv=>whnf
   refine⟨d+1,hlt,by dsimp only;omega,?_⟩;dsimp only;rw[←hst hlt];exact Ex.wO [0] []
  ·have hle:s.length=L.length:=hlen.symm
   (conv=>whnf);repeat(first|refine RK.of (zhM (enc:=zbf) (l:=L) rfl hle) ?_|refine RK.of (zdB L) ?_);conv=>whnf
   rw[hend zo];refine .z [] ?_;exact ydX rfl
theorem zjT {s:List UInt8} (h:zau s=0):∀b∈s,b.toNat<128:=by
 unfold zau at h;split at h
 ·cases h
 ·split at h
  ·rename_i hl;unfold zdr at hl;simp only[ykX,yNY] at hl;intro b hb;have:=hl.1.1.1.2 b hb;unfold zaQ at this;simp only[ykX,yDX] at this;omega
  ·cases h
theorem zxW (s:List UInt8) (hs:s.length<=100000):PureC Tryz.prog 222 [tb s] (.tup [tb (Ck.fold s),ib (zau s)]):=by
 refine ytX zal rfl ?_;unfold Ck.fold;by_cases h:zau s=0
 ·rw[ygX h]
  (conv=>whnf);repeat(first|refine yaX (zdE s hs) ?_|refine KIf.f (yqX Bool.not (ybX h)) ?_|refine yaX (zlR) ?_|refine yaX (zuK s _ hs (zjT h) rfl) ?_);conv=>whnf
  rw[h]
  (refine .z [] ?_;conv=>whnf);(repeat' first|exact zT|exact rfl|refine zA ?_ ?_)<;>(try(conv=>whnf))
 ·rw[yfX h]
  (conv=>whnf);repeat(first|refine yaX (zdE s hs) ?_|refine KIf.t (yqX Bool.not (ycX h)) ?_);conv=>whnf
  (refine .z [] ?_;conv=>whnf);(repeat' first|exact zT|exact rfl|refine zA ?_ ?_)<;>(try(conv=>whnf))
theorem zum (s:List UInt8) (hs:s.length<=100000):PureC Tryz.prog 202 [tb s] (tb (Ck.fold s)):=by
 refine ytX zal rfl ?_
 (conv=>whnf);repeat((refine yaX (zxW s hs) ?_;conv=>whnf))
 refine .z [] ?_;exact ydX rfl
theorem zno (a b:List UInt8) (ha:a.length<=100000) (hb:b.length<=100000):PureC Tryz.prog 173 [tb a,tb b] (bb (Ck.same a b)):=by
 have e:Ck.same a b=decide (Ck.fold a=Ck.fold b):=by unfold Ck.same;rw[yhZ];simp
 rw[e];refine ytX zal rfl ?_
 (conv=>whnf);repeat(first|refine yaX (zum a ha) ?_|refine yaX (zum b hb) ?_);conv=>whnf
 refine .z [] ?_;exact ydX rfl
end Go.Proofs.YtgcjejajljhnaaaGreatDoor
