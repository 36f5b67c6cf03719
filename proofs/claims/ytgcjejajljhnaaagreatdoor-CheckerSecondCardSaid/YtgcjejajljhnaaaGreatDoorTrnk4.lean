/- Own text, part Trnk 4: walks of the package acl and of its reference, and the plain laws that they lean on; no statement of the seat is here. -/
import Derived.Test.YtgcjejajljhnaaaGreatDoorTrnk3
import Derived.Shelf.Small.Strs
import Derived.Shelf.Strconv.Itoa0
import Derived.Shelf.Strconv.Itoa1
import Derived.Shelf.LaysM
import Derived.Shelf.Strconv.Itoa2
import Derived.Shelf.Strconv.Itoa3
import Derived.Shelf.Strings.Prefix
import Derived.Ground.Names2Prog
import Derived.Ground.SlgnProg
import Derived.Test.YtgcjejajljhnaaaGreatDoorProg
import Derived.Test.YtgcjejajljhnaaaGreatDoorTrnk2
set_option linter.all false
namespace Ck
open Go Go.Ex
def flatI {α:Type} (f:Nat→α→List AV):Nat→List α→List AV
 |_,[]=>[]
 |i,x::l=>f i x++flatI f (i+1) l
def updI {α:Type} (f:Nat→α→List AV) (j:Nat) (c:List AV) (i:Nat) (x:α):List AV:=if i=j then c else f i x
section
variable {α : Type} {f : Nat → α → List AV} {sz : Nat}
theorem zbB (j:Nat) (c:List AV) (x:α):updI f j c j x=c:=if_pos rfl
theorem zgi {j i:Nat} (h:i≠j) (c:List AV) (x:α):updI f j c i x=f i x:=if_neg h
theorem updI_upd (j:Nat) (c d:List AV):updI (updI f j c) j d=updI f j d:=by
 funext i x
 unfold updI;by_cases h:i=j
 ·rw[if_pos h,if_pos h]
 ·rw[if_neg h,if_neg h,if_neg h]
theorem zcu (hf:∀i x,(f i x).length=sz) {j:Nat} {c:List AV} (hc:c.length=sz):∀i x,(updI f j c i x).length=sz:=fun i x=>by
 unfold updI;split
 ·exact hc
 ·exact hf i x
theorem zbY (hf:∀i x,(f i x).length=sz):∀(l:List α) (i:Nat),(flatI f i l).length=l.length*sz
 |[],i=>by simp[flatI]
 |x::l,i=>by
  unfold flatI;rw[List.length_append,hf,zbY hf l (i+1),List.length_cons,Nat.add_mul,Nat.one_mul,Nat.add_comm]
theorem zbZ (hf:∀i x,(f i x).length=sz) (o:α):∀(l:List α) (i j k:Nat),j<l.length→k<sz→(flatI f i l)[j*sz+k]? =(f (i+j) (at_ o l j))[k]?
 |[],i,j,k,h,_=>by simp at h
 |x::l,i,0,k,_,hk=>by
  unfold flatI;rw[Nat.zero_mul,Nat.zero_add,List.getElem?_append_left (by rw[hf];exact hk)];rfl
 |x::l,i,j+1,k,h,hk=>by
  unfold flatI
  rw[List.getElem?_append_right (by rw[hf,Nat.add_mul];omega),hf,show(j+1)*sz+k-sz=j*sz+k by rw[Nat.add_mul];omega,zbZ hf o l (i+1) j k (by simpa using h) hk,
   show i+1+j=i+(j+1) by omega]
  rfl
theorem zhK (hf:∀i x,(f i x).length=sz) (o:α) (l:List α) (j:Nat) (h:j<l.length):((flatI f 0 l).drop (j*sz)).take sz=f j (at_ o l j):=by
 apply List.ext_getElem?;intro k;rw[List.getElem?_take];split
 ·rename_i hk;rw[List.getElem?_drop,zbZ hf o l 0 j k h hk,Nat.zero_add]
 ·rename_i hk;rw[List.getElem?_eq_none (by rw[hf];omega)]
theorem zeg {g:Nat→α→List AV} (o:α):∀(l:List α) (i:Nat),(∀j,j<l.length→f (i+j) (at_ o l j)=g (i+j) (at_ o l j))→flatI f i l=flatI g i l
 |[],i,_=>rfl
 |x::l,i,h=>by
  unfold flatI
  have h1:flatI f (i+1) l=flatI g (i+1) l:=zeg o l (i+1) (fun j hj=>by
   have h2:=h (j+1) (by simpa using hj)
   have e:i+(j+1)=i+1+j:=by omega
   rw[e] at h2
   exact h2)
  have h0:f i x=g i x:=h 0 (by simp);rw[h0,h1]
theorem zjH (hf:∀i x,(f i x).length=sz) (o:α) {l:List α} {j k n:Nat} {cs c':List AV} (h:j<l.length) (hkn:k+n≤sz) (hn:cs.length=n) (hc:(f j (at_ o l j)).take k++(cs++(f j (at_ o l j)).drop (k+n))=c'):
  (flatI f 0 l).take (j*sz+k)++(cs++(flatI f 0 l).drop (j*sz+k+n))=flatI (updI f j c') 0 l:=by
 have hlen:=zbY hf l 0
 have hc':c'.length=sz:=by rw[←hc];simp[hf];omega
 have hlt:j*sz+sz≤l.length*sz:=by rw[←Nat.succ_mul];exact Nat.mul_le_mul_right _ h
 have key:∀j' k',j'<l.length→k'<sz→((flatI f 0 l).take (j*sz+k)++(cs++(flatI f 0 l).drop (j*sz+k+n)))[j'*sz+k']? =(updI f j c' j' (at_ o l j'))[k']? :=by
  intro j' k' hj' hk'
  have hq:j'*sz+sz≤l.length*sz:=by rw[←Nat.succ_mul];exact Nat.mul_le_mul_right _ hj'
  by_cases e:j'=j
  ·subst e;rw[zbB,←hc];by_cases h1:k'<k
   ·rw[List.getElem?_append_left (by simp;omega),List.getElem?_take,if_pos (by omega),zbZ hf o l 0 j' k' hj' hk',Nat.zero_add,List.getElem?_append_left (by simp[hf];omega),List.getElem?_take,if_pos h1]
   ·by_cases h2:k'<k+n
    ·rw[List.getElem?_append_right (by simp;omega),List.getElem?_append_left (by simp;omega),List.getElem?_append_right (by simp;omega),List.getElem?_append_left (by simp[hf];omega)]
     congr 1
     simp[hf];omega
    ·rw[List.getElem?_append_right (by simp;omega),List.getElem?_append_right (by simp;omega),List.getElem?_drop,List.getElem?_append_right (by simp;omega),List.getElem?_append_right (by simp[hf];omega),List.getElem?_drop]
     have e1:j'*sz+k+n+(j'*sz+k'-((flatI f 0 l).take (j'*sz+k)).length-cs.length)=j'*sz+k':=by simp[hlen];omega
     rw[e1,zbZ hf o l 0 j' k' hj' hk',Nat.zero_add]
     congr 1
     simp[hf];omega
  ·rw[zgi e];by_cases h1:j'<j
   ·have:j'*sz+sz≤j*sz:=by rw[←Nat.succ_mul];exact Nat.mul_le_mul_right _ h1
    rw[List.getElem?_append_left (by simp;omega),List.getElem?_take,if_pos (by omega),zbZ hf o l 0 j' k' hj' hk',Nat.zero_add]
   ·have:j*sz+sz≤j'*sz:=by rw[←Nat.succ_mul];exact Nat.mul_le_mul_right _ (by omega)
    rw[List.getElem?_append_right (by simp;omega),List.getElem?_append_right (by simp;omega),List.getElem?_drop]
    have e1:j*sz+k+n+(j'*sz+k'-((flatI f 0 l).take (j*sz+k)).length-cs.length)=j'*sz+k':=by simp[hlen];omega
    rw[e1,zbZ hf o l 0 j' k' hj' hk',Nat.zero_add]
 apply List.ext_getElem?;intro q;by_cases hs:sz=0
 ·subst hs;have e0:flatI (updI f j c') 0 l=[]:=List.eq_nil_of_length_eq_zero (by rw[zbY (zcu hf hc') l 0];simp);have e2:flatI f 0 l=[]:=List.eq_nil_of_length_eq_zero (by rw[hlen];simp);have e3:cs=[]:=List.eq_nil_of_length_eq_zero (by omega);rw[e0,e2,e3];simp
 ·by_cases hq:q<l.length*sz
  ·have h1:q/sz<l.length:=(Nat.div_lt_iff_lt_mul (by omega)).2 hq;have h2:q%sz<sz:=Nat.mod_lt _ (by omega)
   have h3:q/sz*sz+q%sz=q:=by rw[Nat.mul_comm];exact Nat.div_add_mod q sz
   have:=key (q/sz) (q%sz) h1 h2;rw[h3] at this;have h4:=zbZ (f:=updI f j c') (zcu hf hc') o l 0 (q/sz) (q%sz) h1 h2;rw[h3,Nat.zero_add] at h4;rw[this,h4]
  ·rw[List.getElem?_eq_none,List.getElem?_eq_none]
   ·rw[zbY (zcu hf hc') l 0];omega
   ·simp[hlen,hn];omega
end
end Ck
namespace Ck
open Go Go.Ex
def aFd (x:Fd):List AV:=[ib x.k,ib x.r,ib x.i]
noncomputable def seS (ph:Bool) (A i:Nat) (x:Rc):AV:=if ph=true∨x.ss=[] then LS 2 aSm Sm.o x.ss else .so (fam A (2*i)) 0 x.ss.length 0
noncomputable def seE (A i:Nat) (x:Rc):AV:=if x.es=[] then LS 4 aEn En.o [] else .so (fam A (2*i+1)) 0 x.es.length 0
noncomputable def slF (A:Nat) (l:List Fd):AV:=if l=[] then .sc (.slice none 0 0) else .so (fam A 192) 0 l.length 0
noncomputable def slL (A:Nat) (l:List Int):AV:=if l=[] then .sc (.slice none 0 0) else .so (fam A 193) 0 l.length 0
noncomputable def rcP (ph:Bool) (A i:Nat) (x:Rc):List AV:=[bb x.u,ib x.q,ib x.k,ib x.b.r,ib x.b.q,ib x.ln,ib x.ds,LS 3 aNm Nm.o x.ns,seS ph A i x,seE A i x]
noncomputable def pRow (A k:Nat) (p:Rp):List AV:=[ib p.v.c,LS 2 aRun Run.o p.v.al, .so k 0 p.v.rs.length 0,LS 1 aI 0 p.v.ds,tb p.v.mp,slF A p.fd,slL A p.fl]
def gP (ph:Bool) (p:Rp) (j:Nat):Option AO:=
 if j=192 then(if p.fd=[] then none else some (.row (p.fd.flatMap aFd) 86 3))
 else if j=193 then(if p.fl=[] then none else some (.row (p.fl.map ib) 3 1))
 else match p.v.rs[j/2]? with
  |none=>none
  |some x=>if j%2=0 then(if ph=true∨x.ss=[] then none else some (.row (x.ss.flatMap aSm) 80 2)) else(if x.es=[] then none else some (.row (x.es.flatMap aEn) 73 4))
theorem zat (ph:Bool) (A:Nat):∀i x,(rcP ph A i x).length=10:=fun _ _=>rfl
theorem zkQ {ph:Bool} {A i:Nat} {x:Rc} (h:ph=true∨x.ss=[]):seS ph A i x=LS 2 aSm Sm.o x.ss:=if_pos h
theorem zi8 {A i:Nat} {x:Rc} (h:x.ss≠[]):seS false A i x= .so (fam A (2*i)) 0 x.ss.length 0:=if_neg (by simp[h])
theorem zdh {A i:Nat} {x:Rc} (h:x.es=[]):seE A i x=LS 4 aEn En.o []:=if_pos h
theorem zfL {A i:Nat} {x:Rc} (h:x.es≠[]):seE A i x= .so (fam A (2*i+1)) 0 x.es.length 0:=if_neg h
theorem zhq {A:Nat} {l:List Fd} (h:l≠[]):slF A l= .so (fam A 192) 0 l.length 0:=if_neg h
theorem zi5 {A:Nat} {l:List Int} (h:l≠[]):slL A l= .so (fam A 193) 0 l.length 0:=if_neg h
theorem zlX {ph:Bool} {p:Rp} (h:p.fd≠[]):gP ph p 192=some (.row (p.fd.flatMap aFd) 86 3):=by unfold gP;rw[if_pos rfl,if_neg h]
theorem zmN {ph:Bool} {p:Rp} (h:p.fl≠[]):gP ph p 193=some (.row (p.fl.map ib) 3 1):=by unfold gP;rw[if_neg (by decide),if_pos rfl,if_neg h]
theorem zcJ {ph:Bool} {p:Rp} {j:Nat} (h:j<192):gP ph p j=match p.v.rs[j/2]? with
  |none=>none
  |some x=>if j%2=0 then(if ph=true∨x.ss=[] then none else some (.row (x.ss.flatMap aSm) 80 2)) else(if x.es=[] then none else some (.row (x.es.flatMap aEn) 73 4)):=by
 unfold gP;rw[if_neg (by omega),if_neg (by omega)]
theorem znw {p:Rp} {i:Nat} (hi:i<p.v.rs.length) (h96:i<96) (h:(at_ Rc.o p.v.rs i).ss≠[]):gP false p (2*i)=some (.row ((at_ Rc.o p.v.rs i).ss.flatMap aSm) 80 2):=by
 rw[zcJ (by omega),show 2*i/2=i by omega,List.getElem?_eq_getElem hi,←zaG Rc.o _ _ hi];simp only;rw[if_pos (by omega),if_neg (by simp[h])]
theorem zjD {ph:Bool} {p:Rp} {i:Nat} (hi:i<p.v.rs.length) (h96:i<96) (h:(at_ Rc.o p.v.rs i).es≠[]):gP ph p (2*i+1)=some (.row ((at_ Rc.o p.v.rs i).es.flatMap aEn) 73 4):=by
 rw[zcJ (by omega),show(2*i+1)/2=i by omega,List.getElem?_eq_getElem hi,←zaG Rc.o _ _ hi];simp only;rw[if_neg (by omega),if_neg h]
theorem zab (ph:Bool) (p:Rp):∀j o,gP ph p j=some o→zbn o:=by
 intro j o h
 have hs:∀x:Sm,cont.contL (aSm x)=true:=fun _=>rfl
 have he:∀x:En,cont.contL (aEn x)=true:=fun _=>rfl
 have hf:∀x:Fd,cont.contL (aFd x)=true:=fun _=>rfl
 have hm:∀l:List Int,cont.contL (l.map ib)=true:=by
  intro l
  induction l with
  |nil=>rfl
  |cons a l ih=>exact ih
 unfold gP at h;split at h
 ·split at h
  ·cases h
  ·cases h;exact zas hf _
 ·split at h
  ·split at h
   ·cases h
   ·cases h;exact hm _
  ·split at h
   ·cases h
   ·split at h
    ·split at h
     ·cases h
     ·cases h;exact zas hs _
    ·split at h
     ·cases h
     ·cases h;exact zas he _
theorem znx {ph:Bool} {p q:Rp} {i:Nat} (hl:q.v.rs.length=p.v.rs.length) (hfd:q.fd=p.fd) (hfl:q.fl=p.fl) (hr:∀k,k≠i→at_ Rc.o q.v.rs k=at_ Rc.o p.v.rs k) {j:Nat} (h1:j≠2*i) (h2:j≠2*i+1):gP ph q j=gP ph p j:=by
 unfold gP;rw[hfd,hfl]
 have:q.v.rs[j/2]? =p.v.rs[j/2]? :=by
  by_cases hk:j/2<p.v.rs.length
  ·have:=hr (j/2) (by omega);rw[zaG _ _ _ (by omega),zaG _ _ _ hk] at this;rw[List.getElem?_eq_getElem (by omega),List.getElem?_eq_getElem hk,this]
  ·rw[List.getElem?_eq_none (by omega),List.getElem?_eq_none (by omega)]
 rw[this]
theorem ziE {ph:Bool} {p q:Rp} (hr:q.v.rs=p.v.rs) {j:Nat} (h1:j≠192) (h2:j≠193):gP ph q j=gP ph p j:=by
 unfold gP;rw[if_neg h1,if_neg h2,if_neg h1,if_neg h2,hr]
theorem zf3 {s:St} {b:Nat} {c:List AV} {e:TypeId} {q:Nat} (h:s.h.get b=some (.row c e q)):Ex.rowAt s b= .ok (c,e,q):=by
 unfold Ex.rowAt;rw[h];rfl
section
variable {P : Program} {s : St} {K : KC} {α : Type} {f : Nat → α → List AV} {sz : Nat}
theorem zaP (hf:∀i x,(f i x).length=sz) (o:α) {l:List α} {T:TypeId} {b j k n off:Nat} {e:TypeId} {q:Nat} {v:AV} (hoff:off=j*sz+k) (hT:tyS P T= .ok (false,n)) (hr:s.h.get b=some (.row (flatI f 0 l) e q)) (hj:j<l.length) (hk:k<sz) (hv:(f j (at_ o l j))[k]? =some v):zct P s T b off= .ok v:=by
 subst hoff;refine zjs hr hT ?_;rw[zbZ hf o l 0 j k hj hk,Nat.zero_add];exact hv
theorem zcI (hf:∀i x,(f i x).length=sz) (o:α) {l:List α} {T:TypeId} {b j off:Nat} {e:TypeId} {q:Nat} {c:List AV} (hoff:off=j*sz) (hT:tyS P T= .ok (true,sz)) (hr:s.h.get b=some (.row (flatI f 0 l) e q)) (hj:j<l.length) (hc:f j (at_ o l j)=c):zct P s T b off= .ok (.agg c):=by
 subst hoff;refine loadV_agg hr hT ?_ (by rw[zhK hf o l j hj,hc]);rw[zbY hf]
 have:j*sz+sz≤l.length*sz:=by rw[←Nat.succ_mul];exact Nat.mul_le_mul_right _ hj
 exact this
theorem zbC (hf:∀i x,(f i x).length=sz) (o:α) {l:List α} {T:TypeId} {b j k n off:Nat} {v:AV} {e:TypeId} {q:Nat} {a:Bool} (cs c':List AV) (hoff:off=j*sz+k) (hn:zd2 v=true) (hT:tyS P T= .ok (a,n)) (hcs:v.cells=cs) (hl:cs.length=n) (h1:zbs cs=true) (hr:s.h.get b=some (.row (flatI f 0 l) e q)) (hj:j<l.length) (hk:k+n≤sz)
  (hc:(f j (at_ o l j)).take k++(cs++(f j (at_ o l j)).drop (k+n))=c') (hk2:(s.set b (.row (flatI (updI f j c') 0 l) e q)).nfK fun s=>K AV.undef s):zdZ (zcD P s T (.ptr b off) v) K:=by
 subst hoff
 have hlt:j*sz+sz≤l.length*sz:=by rw[←Nat.succ_mul];exact Nat.mul_le_mul_right _ hj
 have h1':∀x∈v.cells,oneA x=true:=by
  rw[hcs];clear hcs hl hc
  induction cs with
  |nil=>intro x hx;cases hx
  |cons y l ih=>
   unfold zbs at h1;split at h1
   ·rename_i hy;intro x hx
    rcases List.mem_cons.1 hx with rfl|hx
    ·exact hy
    ·exact ih h1 x hx
   ·cases h1
 refine zdf (zdg (c':=flatI (updI f j c') 0 l) hn hT (by rw[hcs];exact hl) h1' hr (by rw[zbY hf];omega) ?_) hk2;rw[hcs];exact zjH hf o hj hk hl hc
end
theorem zbh {g:Nat→Option AO} {k j:Nat} {x:Option AO} (h:j≠k):updF g k x j=g j:=by rw[zcc,if_neg h]
theorem zn1 (l:List Fd):(l.flatMap aFd).length=0+l.length*3:=by rw[zbj (sz:=3) (fun _=>rfl),Nat.zero_add]
theorem znY (l:List Int):(l.map ib).length=0+l.length*1:=by simp
theorem es_len (l:List En):(l.flatMap aEn).length=0+l.length*4:=by rw[zbj (sz:=4) (fun _=>rfl),Nat.zero_add]
theorem zbx (l:List En):cont.contL (l.flatMap aEn)=true:=zas (fun _=>rfl) l
theorem zma (l:List Sm):cont.contL (l.flatMap aSm)=true:=zas (fun _=>rfl) l
theorem zbR (l:List Fd):cont.contL (l.flatMap aFd)=true:=zas (fun _=>rfl) l
theorem zbH :∀l:List Int,cont.contL (l.map ib)=true
 |[]=>rfl
 |_::l=>zbH l
theorem Wzc {h:T AO} {z:List Nat} {x y:AV} {l l':List AV} (h1:Wz h z x y) (h2:Wzl h z l l'):Wzl h z (x::l) (y::l'):=by unfold Wzl;exact⟨h1,h2⟩
theorem Wzn {h:T AO} {z:List Nat}:Wzl h z [] []:=by unfold Wzl;trivial
theorem Wza {h:T AO} {z:List Nat} {v:AV}:Wz h z .any v:=by unfold Wz;trivial
theorem seS_one (ph:Bool) (A i:Nat) (x:Rc):oneA (seS ph A i x)=true:=by unfold seS;split<;>rfl
theorem seE_one (A i:Nat) (x:Rc):oneA (seE A i x)=true:=by unfold seE;split<;>rfl
theorem zie (ph:Bool) (A i:Nat) (x:Rc):∀y∈rcP ph A i x,oneA y=true:=by
 intro y hy;unfold rcP at hy
 rcases List.mem_cons.1 hy with rfl|hy;rfl
 rcases List.mem_cons.1 hy with rfl|hy;rfl
 rcases List.mem_cons.1 hy with rfl|hy;rfl
 rcases List.mem_cons.1 hy with rfl|hy;rfl
 rcases List.mem_cons.1 hy with rfl|hy;rfl
 rcases List.mem_cons.1 hy with rfl|hy;rfl
 rcases List.mem_cons.1 hy with rfl|hy;rfl
 rcases List.mem_cons.1 hy with rfl|hy;rfl
 rcases List.mem_cons.1 hy with rfl|hy;exact seS_one _ _ _ _
 rcases List.mem_cons.1 hy with rfl|hy;exact seE_one _ _ _
 cases hy
theorem zeo {P:Program} {s:St} {K:KC} {T:TypeId} {b off:Nat} {c:List AV} {e:TypeId} {q:Nat} {ph:Bool} {A i:Nat} {x:Rc} (hoff:off=0) (hT:tyS P T= .ok (true,10)) (hr:s.h.get b=some (.row c e q)) (hc:c.length=10) (hk:(s.set b (.row (rcP ph A i x) e q)).nfK fun s=>K AV.undef s):zdZ (zcD P s T (.ptr b off) (.agg (rcP ph A i x))) K:=by
 subst hoff;exact zdf (zdg rfl hT rfl (zie ph A i x) hr (by omega) (by rw[List.take_zero,List.nil_append,Nat.zero_add,←hc,List.drop_length,List.append_nil];rfl)) hk
def zF (A:Nat) (l:List Nat):List Nat:=l++List.range' A 200
theorem zbd {A j:Nat} {l:List Nat} (h:j<200):fam A j∈zF A l:=by
 unfold zF;rw[za8];exact List.mem_append_right _ (by rw[List.mem_range'_1];omega)
theorem zbA {A k:Nat} {l:List Nat} (h:k∈l):k∈zF A l:=List.mem_append_left _ h
section
variable {h : T AO} {z : List Nat} {A : Nat} {ph : Bool} {p : Rp}
structure Lies (h:T AO) (z:List Nat) (A:Nat) (ph:Bool) (p:Rp):Prop where
 z:∀j,j<200→fam A j∈z
 g:∀j,j<200→h.get (fam A j)=gP ph p j
theorem zj4 {j n sz:Nat} {α:Type} {enc:α→List AV} {o:α} {l:List α} {e:TypeId} {q:Nat} (he:∀x,(enc x).length=sz) (hc:∀x,cont.contL (enc x)=true) (hr:h.get (fam A j)=some (.row (l.flatMap enc) e q)) (hz:fam A j∈z) (hn:n=l.length) (hp:Nat.blt 0 sz=true:=by rfl):Wz h z (LS sz enc o l) (.so (fam A j) 0 n 0):=Wz.list he hc hr hz hn rfl hp
theorem seS_Wz (H:Lies h z A ph p) {i:Nat} (hi:i<p.v.rs.length) (h96:i<96):Wz h z (LS 2 aSm Sm.o (at_ Rc.o p.v.rs i).ss) (seS ph A i (at_ Rc.o p.v.rs i)):=by
 unfold seS
 by_cases hs:ph=true∨(at_ Rc.o p.v.rs i).ss=[]
 ·rw[if_pos hs];exact zaa rfl
 ·rw[if_neg hs]
  have hph:ph=false:=by cases ph with|false=>rfl|true=>exact absurd (.inl rfl) hs
  subst hph;exact zj4 (fun _=>rfl) (fun _=>rfl) ((H.g _ (by omega)).trans (znw hi h96 (fun e=>hs (.inr e)))) (H.z _ (by omega)) rfl
theorem seE_Wz (H:Lies h z A ph p) {i:Nat} (hi:i<p.v.rs.length) (h96:i<96):Wz h z (LS 4 aEn En.o (at_ Rc.o p.v.rs i).es) (seE A i (at_ Rc.o p.v.rs i)):=by
 unfold seE
 by_cases hs:(at_ Rc.o p.v.rs i).es=[]
 ·rw[if_pos hs,hs];exact zaa rfl
 ·rw[if_neg hs];exact zj4 (fun _=>rfl) (fun _=>rfl) ((H.g _ (by omega)).trans (zjD hi h96 hs)) (H.z _ (by omega)) rfl
theorem rc_Wzl (H:Lies h z A ph p) {i:Nat} (hi:i<p.v.rs.length) (h96:i<96):Wzl h z (aRc (at_ Rc.o p.v.rs i)) (rcP ph A i (at_ Rc.o p.v.rs i)):=
 Wzc (zaa rfl) (Wzc (zaa rfl) (Wzc (zaa rfl) (Wzc (zaa rfl) (Wzc (zaa rfl) (Wzc (zaa rfl) (Wzc (zaa rfl) (Wzc (zaa rfl) (Wzc (seS_Wz H hi h96) (Wzc (seE_Wz H hi h96) Wzn)))))))))
theorem zmn (H:Lies h z A ph p) {b n:Nat} {e:TypeId} {q:Nat} (h96:p.v.rs.length≤96) (hr:h.get b=some (.row (flatI (rcP ph A) 0 p.v.rs) e q)) (hb:b∈z) (hn:n=p.v.rs.length):Wz h z (LS 10 aRc Rc.o p.v.rs) (.so b 0 n 0):=by
 unfold Wz;refine⟨hn,hb,rfl,_,_,_,hr,by rw[zbY (zat ph A)];omega,fun i hi=>⟨rfl,?_⟩⟩;rw[zhK (zat ph A) Rc.o p.v.rs i hi];exact rc_Wzl H hi (by omega)
theorem zje (H:Lies h z A ph p) {b n:Nat} {e:TypeId} {q:Nat} (h96:p.v.rs.length≤96) (hr:h.get b=some (.row (flatI (rcP ph A) 0 p.v.rs) e q)) (hb:b∈z) (hn:n=p.v.rs.length):Wz h z (aPts p.v) (.agg [ib p.v.c,LS 2 aRun Run.o p.v.al, .so b 0 n 0,LS 1 aI 0 p.v.ds,tb p.v.mp]):=by
 unfold Wz;exact Wzc (zaa rfl) (Wzc (zaa rfl) (Wzc (zmn H h96 hr hb hn) (Wzc (zaa rfl) (Wzc (zaa rfl) Wzn))))
end
section
variable {h : T AO} {z : List Nat} {A : Nat} {ov : List (Nat × Nat)} {r : List Nat}
noncomputable abbrev RG (A:Nat) (ov:List (Nat×Nat)) (r:List Nat):Nat→Option Nat:=renG 20 220 A ov r
theorem so_W {j n:Nat} (hj:j<200) (hp:∀p∈ov,j≠p.1):NmP (RS (RG A ov r)) (.so (fam 20 j) 0 n 0)∧Wv h z (RD (RG A ov r)) (.so (fam 20 j) 0 n 0) (.so (fam A j) 0 n 0):=by
 refine⟨by unfold NmP;exact zjX hj,?_⟩;unfold Wv;exact⟨(znk hj hp).symm,rfl,rfl,rfl⟩
theorem zlU {j n k:Nat} (hj:j<200):NmP (RS (RG A ((j,k)::ov) r)) (.so (fam 20 j) 0 n 0)∧Wv h z (RD (RG A ((j,k)::ov) r)) (.so (fam 20 j) 0 n 0) (.so k 0 n 0):=by
 refine⟨by unfold NmP;exact zjX hj,?_⟩;unfold Wv;exact⟨(RD_ov hj).symm,rfl,rfl,rfl⟩
theorem zmb {i j n k m:Nat} (hj:j<200) (hij:j≠i):NmP (RS (RG A ((i,m)::(j,k)::ov) r)) (.so (fam 20 j) 0 n 0)∧Wv h z (RD (RG A ((i,m)::(j,k)::ov) r)) (.so (fam 20 j) 0 n 0) (.so k 0 n 0):=by
 refine⟨by unfold NmP;exact zjX hj,?_⟩;unfold Wv;exact⟨(RD_ov2 hj hij).symm,rfl,rfl,rfl⟩
mutual
theorem zmw {p:Nat→Prop}:∀v:AV,cont v=true→NmP p v
 | .sc _,_=>trivial
 | .lst _ _ _,_=>trivial
 | .cp _ _,_=>trivial
 | .any,_=>trivial
 | .agg l,h=>zcX l h
 | .ptr _ _,h=>(by cases h)
 | .sl _ _ _ _,h=>(by cases h)
 | .so _ _ _ _,h=>(by cases h)
 | .fn _ a b,h=>by
  unfold cont at h;split at h
  ·rename_i h1;exact⟨zcX a h1,zcX b h⟩
  ·cases h
 | .tup _,h=>(by cases h)
 | .ifc _ _,h=>(by cases h)
theorem zcX {p:Nat→Prop}:∀l:List AV,cont.contL l=true→NmPl p l
 |[],_=>trivial
 |x::l,h=>by
  unfold cont.contL at h;split at h
  ·rename_i hx;exact⟨zmw x hx,zcX l h⟩
  ·cases h
end
theorem zc6 {v:AV} {p:Nat→Prop} {rr:Nat→Nat} (hc:cont v=true):NmP p v∧Wv h z rr v v:=⟨zmw v hc,zc3 hc⟩
def WL (h:T AO) (z:List Nat) (R:Nat→Option Nat) (c1 c:List AV):Prop:=NmPl (RS R) c1∧Wvl h z (RD R) c1 c
theorem WL.nil {R:Nat→Option Nat}:WL h z R [] []:=⟨trivial,by unfold Wvl;trivial⟩
theorem WL.cons {R:Nat→Option Nat} {x y:AV} {l l':List AV} (h1:NmP (RS R) x∧Wv h z (RD R) x y) (h2:WL h z R l l'):WL h z R (x::l) (y::l'):=⟨⟨h1.1,h2.1⟩,by unfold Wvl;exact⟨h1.2,h2.2⟩⟩
theorem zhw {p:Nat→Prop}:∀{a b:List AV},NmPl p a→NmPl p b→NmPl p (a++b)
 |[],_,_,hb=>hb
 |_::_,_,ha,hb=>⟨ha.1,zhw ha.2 hb⟩
theorem WL.append {R:Nat→Option Nat} {a b x y:List AV} (h1:WL h z R a b) (h2:WL h z R x y):WL h z R (a++x) (b++y):=⟨zhw h1.1 h2.1,zfF h1.2 h2.2⟩
theorem WL.sc {R:Nat→Option Nat} {v:AV} {l l':List AV} (hc:cont v=true) (h2:WL h z R l l'):WL h z R (v::l) (v::l'):=WL.cons (zc6 hc) h2
theorem znH {R:Nat→Option Nat} {c c':List AV} {v:Value} (hc:WL h z R c c'):NmP (RS R) (.tup [.agg c, .sc v])∧Wv h z (RD R) (.tup [.agg c, .sc v]) (.tup [.agg c', .sc v]):=by
 refine⟨⟨hc.1,trivial,trivial⟩,?_⟩;unfold Wv Wvl;refine⟨by unfold Wv;exact hc.2,?_⟩;unfold Wvl;exact⟨(zc6 (p:=fun _=>True) rfl).2,by unfold Wvl;trivial⟩
theorem WL.flatI {α:Type} {R:Nat→Option Nat} {f g:Nat→α→List AV} (o:α):∀(l1 l2:List α) (i:Nat),l1.length=l2.length→(∀j,j<l1.length→WL h z R (f (i+j) (at_ o l1 j)) (g (i+j) (at_ o l2 j)))→WL h z R (Ck.flatI f i l1) (Ck.flatI g i l2)
 |[],[],i,_,_=>WL.nil
 |[],_::_,i,hl,_=>by cases hl
 |_::_,[],i,hl,_=>by cases hl
 |x::l1,y::l2,i,hl,hw=>by
  unfold Ck.flatI;refine WL.append (hw 0 (by simp)) (WL.flatI o l1 l2 (i+1) (by simpa using hl) fun j hj=> ?_);have h2:=hw (j+1) (by simpa using hj)
  have e:i+(j+1)=i+1+j:=by omega
  rw[e] at h2;exact h2
theorem WL.row {R:Nat→Option Nat} {c1 c:List AV} (hw:WL h z R c1 c):WRowG h z R c1 c:= .inl hw
theorem zlV {ph:Bool} {i:Nat} {x:Rc} (hi:i<96) (hp:∀p∈ov,2*i≠p.1):NmP (RS (RG A ov r)) (seS ph 20 i x)∧Wv h z (RD (RG A ov r)) (seS ph 20 i x) (seS ph A i x):=by
 unfold seS
 by_cases hs:ph=true∨x.ss=[]
 ·rw[if_pos hs,if_pos hs];exact zc6 rfl
 ·rw[if_neg hs,if_neg hs];exact so_W (by omega) hp
theorem zoD {i:Nat} {x:Rc} (hi:i<96) (hp:∀p∈ov,2*i+1≠p.1):NmP (RS (RG A ov r)) (seE 20 i x)∧Wv h z (RD (RG A ov r)) (seE 20 i x) (seE A i x):=by
 unfold seE
 by_cases hs:x.es=[]
 ·rw[if_pos hs,if_pos hs];exact zc6 rfl
 ·rw[if_neg hs,if_neg hs];exact so_W (by omega) hp
theorem slF_W {l:List Fd} (hp:∀p∈ov,192≠p.1):NmP (RS (RG A ov r)) (slF 20 l)∧Wv h z (RD (RG A ov r)) (slF 20 l) (slF A l):=by
 unfold slF
 by_cases hs:l=[]
 ·rw[if_pos hs,if_pos hs];exact zc6 rfl
 ·rw[if_neg hs,if_neg hs];exact so_W (by omega) hp
theorem slL_W {l:List Int} (hp:∀p∈ov,193≠p.1):NmP (RS (RG A ov r)) (slL 20 l)∧Wv h z (RD (RG A ov r)) (slL 20 l) (slL A l):=by
 unfold slL
 by_cases hs:l=[]
 ·rw[if_pos hs,if_pos hs];exact zc6 rfl
 ·rw[if_neg hs,if_neg hs];exact so_W (by omega) hp
theorem zcj {ph:Bool} {i:Nat} {x:Rc} (hi:i<96) (hp:∀p∈ov,2*i≠p.1∧2*i+1≠p.1):WL h z (RG A ov r) (rcP ph 20 i x) (rcP ph A i x):=by
 unfold rcP
 repeat refine WL.sc rfl ?_
 refine WL.cons (zlV hi fun p hq=>(hp p hq).1) (WL.cons (zoD hi fun p hq=>(hp p hq).2) WL.nil)
theorem zdo {ph:Bool} {rs:List Rc} (hn:rs.length≤96) (hp:∀p∈ov,191<p.1):WL h z (RG A ov r) (flatI (rcP ph 20) 0 rs) (flatI (rcP ph A) 0 rs):=
 WL.flatI Rc.o rs rs 0 rfl fun j hj=>zcj (by omega) fun p hq=>by have:=hp p hq;omega
theorem zbf {ph:Bool} {rs rs':List Rc} {i:Nat} {c:List AV} (hn:rs.length≤96) (hl:rs'.length=rs.length) (hr:∀k,k≠i→at_ Rc.o rs' k=at_ Rc.o rs k) (hp:∀p∈ov,∀k,k<96→k≠i→2*k≠p.1∧2*k+1≠p.1) (hc:WL h z (RG A ov r) (rcP ph 20 i (at_ Rc.o rs' i)) c):WL h z (RG A ov r) (flatI (rcP ph 20) 0 rs') (flatI (updI (rcP ph A) i c) 0 rs):=by
 refine WL.flatI Rc.o rs' rs 0 hl fun j hj=> ?_
 rw[Nat.zero_add];by_cases e:j=i
 ·subst e;rw[zbB];exact hc
 ·rw[zgi e,hr j e];exact zcj (by omega) fun p hq=>hp p hq j (by omega) e
theorem zdp {p:Rp} {k:Nat} (hk:RS (RG A ov r) 1∧RD (RG A ov r) 1=k) (hp:∀p∈ov,192≠p.1∧193≠p.1):WL h z (RG A ov r) (pRow 20 1 p) (pRow A k p):=by
 unfold pRow;refine WL.sc rfl (WL.sc rfl (WL.cons ⟨hk.1,?_⟩ (WL.sc rfl (WL.sc rfl (WL.cons (slF_W fun p hq=>(hp p hq).1) (WL.cons (slL_W fun p hq=>(hp p hq).2) WL.nil))))));unfold Wv;exact⟨hk.2.symm,rfl,rfl,rfl⟩
end
section
variable {h : T AO} {z : List Nat} {A : Nat} {ov : List (Nat × Nat)} {r : List Nat}
theorem slF_app {A:Nat} (l:List Fd) (x:Fd):slF A (l++[x])= .so (fam A 192) 0 (l.length+1) 0:=by rw[zhq (by simp)];simp
theorem slL_app {A:Nat} (l:List Int) (x:Int):slL A (l++[x])= .so (fam A 193) 0 (l.length+1) 0:=by rw[zi5 (by simp)];simp
theorem zmg {l:List Fd} {x:Fd} {k n:Nat} (hn:n=l.length+1):NmP (RS (RG A ((192,k)::ov) r)) (slF 20 (l++[x]))∧Wv h z (RD (RG A ((192,k)::ov) r)) (slF 20 (l++[x])) (.so k 0 n 0):=by
 rw[slF_app,hn];exact zlU (by omega)
theorem zmf {l:List Int} {x:Int} {k m n:Nat} (hn:n=l.length+1):NmP (RS (RG A ((192,m)::(193,k)::ov) r)) (slL 20 (l++[x]))∧Wv h z (RD (RG A ((192,m)::(193,k)::ov) r)) (slL 20 (l++[x])) (.so k 0 n 0):=by
 rw[slL_app,hn];exact zmb (by omega) (by omega)
theorem zfJ {k k0 n:Nat} (hk:RS (RG A ov r) k∧RD (RG A ov r) k=k0):NmP (RS (RG A ov r)) (.so k 0 n 0)∧Wv h z (RD (RG A ov r)) (.so k 0 n 0) (.so k0 0 n 0):=by
 refine⟨by unfold NmP;exact hk.1,?_⟩;unfold Wv;exact⟨hk.2.symm,rfl,rfl,rfl⟩
theorem zk7 {ph:Bool} {p:Rp} {k r i:Int} {g:Nat→Option AO} (hg:∀j,j≠192→j≠193→g j=gP ph p j) {a b:Nat}:∀j o1,gP ph (p.note k r i) j=some o1→(∀q∈[(192,a),(193,b)],j≠q.1)→g j=some o1∧zbn o1:=by
 intro j o1 h1 h2;have e1:j≠192:=h2 (192,a) (by simp);have e2:j≠193:=h2 (193,b) (by simp);refine⟨?_,zab _ _ j o1 h1⟩;rw[hg j e1 e2];exact(ziE (ph:=ph) (p:=p) (q:=p.note k r i) rfl e1 e2).symm.trans h1
theorem note_ov {ph:Bool} {p:Rp} {k r0 i:Int} {R:Nat→Option Nat} {a b:Nat} {ca cb:List AV} (ha:h.get a=some (.row ca 86 3)) (hca:ca=p.fd.flatMap aFd++[ib k,ib r0,ib i]) (hb:h.get b=some (.row cb 3 1)) (hcb:cb=p.fl.map ib++[ib (-1)]):
  ∀q∈[(192,a),(193,b)],∀o1,gP ph (p.note k r0 i) q.1=some o1→∃o,h.get q.2=some o∧WOG h z R o1 o:=by
 intro q hq o1 ho
 rcases List.mem_cons.1 hq with rfl|hq
 ·rw[zlX (show(p.note k r0 i).fd≠[] by unfold Rp.note;simp)] at ho;cases ho;refine⟨_,ha,rfl,rfl, .same ?_ (by rw[hca];exact nmc (zbR _) rfl)⟩;rw[hca];unfold Rp.note;rw[List.flatMap_append];rfl
 ·rcases List.mem_cons.1 hq with rfl|hq
  ·rw[zmN (show(p.note k r0 i).fl≠[] by unfold Rp.note;simp)] at ho;cases ho;refine⟨_,hb,rfl,rfl, .same ?_ (by rw[hcb];exact nmc (zbH _) rfl)⟩;rw[hcb];unfold Rp.note;rw[List.map_append];rfl
  ·cases hq
where
 nmc:∀{a b:List AV},cont.contL a=true→cont.contL b=true→cont.contL (a++b)=true
 |[],_,_,hb=>hb
 |x::a,b,ha,hb=>by
  unfold cont.contL at ha;show cont.contL (x::(a++b))=true;unfold cont.contL;split at ha
  ·exact nmc ha hb
  ·cases ha
end
section
variable {n n0 : Nat} {r : List Nat}
theorem so_R {j m:Nat} (hj:j<200):Rn (rhoG 20 220 n n0 r) (.so (fam 20 j) 0 m 0) (.so (fam n j) 0 m 0):=by
 unfold Rn;rw[rhoG_fam hj]
theorem seS_R {ph:Bool} {i:Nat} {x:Rc} (hi:i<96):Rn (rhoG 20 220 n n0 r) (seS ph 20 i x) (seS ph n i x):=by
 unfold seS
 by_cases hs:ph=true∨x.ss=[]
 ·rw[if_pos hs,if_pos hs];unfold Rn;rfl
 ·rw[if_neg hs,if_neg hs];exact so_R (by omega)
theorem seE_R {i:Nat} {x:Rc} (hi:i<96):Rn (rhoG 20 220 n n0 r) (seE 20 i x) (seE n i x):=by
 unfold seE
 by_cases hs:x.es=[]
 ·rw[if_pos hs,if_pos hs];unfold Rn;rfl
 ·rw[if_neg hs,if_neg hs];exact so_R (by omega)
theorem slF_R {l:List Fd}:Rn (rhoG 20 220 n n0 r) (slF 20 l) (slF n l):=by
 unfold slF
 by_cases hs:l=[]
 ·rw[if_pos hs,if_pos hs];unfold Rn;rfl
 ·rw[if_neg hs,if_neg hs];exact so_R (by omega)
theorem slL_R {l:List Int}:Rn (rhoG 20 220 n n0 r) (slL 20 l) (slL n l):=by
 unfold slL
 by_cases hs:l=[]
 ·rw[if_pos hs,if_pos hs];unfold Rn;rfl
 ·rw[if_neg hs,if_neg hs];exact so_R (by omega)
theorem zhW {ρ:Nat→Nat}:∀{a b x y:List AV},Rnl ρ a b→Rnl ρ x y→Rnl ρ (a++x) (b++y)
 |[],b,x,y,ha,hx=>by
  unfold Rnl at ha;split at ha
  ·exact hx
  ·exact ha.elim
 |v::a,b,x,y,ha,hx=>by
  unfold Rnl at ha;split at ha
  ·exact(by show Rnl ρ (v::(a++x)) (_::(_++y));unfold Rnl;exact⟨ha.1,zhW ha.2 hx⟩)
  ·exact ha.elim
theorem Rnl.nil {ρ:Nat→Nat}:Rnl ρ [] []:=by unfold Rnl;trivial
theorem Rnl.cons {ρ:Nat→Nat} {x y:AV} {l l':List AV} (h1:Rn ρ x y) (h2:Rnl ρ l l'):Rnl ρ (x::l) (y::l'):=by unfold Rnl;exact⟨h1,h2⟩
theorem Rn.sc {ρ:Nat→Nat} {v:Value}:Rn ρ (.sc v) (.sc v):=by unfold Rn;rfl
theorem Rn.lst {ρ:Nat→Nat} {sz m:Nat} {f:Nat→List AV}:Rn ρ (.lst sz m f) (.lst sz m f):=by unfold Rn;rfl
theorem rcP_R {ph:Bool} {i:Nat} {x:Rc} (hi:i<96):Rnl (rhoG 20 220 n n0 r) (rcP ph 20 i x) (rcP ph n i x):=by
 unfold rcP;refine Rnl.cons Rn.sc (Rnl.cons Rn.sc (Rnl.cons Rn.sc (Rnl.cons Rn.sc (Rnl.cons Rn.sc (Rnl.cons Rn.sc (Rnl.cons Rn.sc (Rnl.cons Rn.lst (Rnl.cons (seS_R hi) (Rnl.cons (seE_R hi) Rnl.nil)))))))))
theorem zko {α:Type} {ρ:Nat→Nat} {f g:Nat→α→List AV} (o:α):∀(l:List α) (i:Nat),(∀j,j<l.length→Rnl ρ (f (i+j) (at_ o l j)) (g (i+j) (at_ o l j)))→Rnl ρ (flatI f i l) (flatI g i l)
 |[],i,_=>Rnl.nil
 |x::l,i,hw=>by
  unfold flatI;refine zhW (hw 0 (by simp)) (zko o l (i+1) fun j hj=> ?_);have h2:=hw (j+1) (by simpa using hj)
  have e:i+(j+1)=i+1+j:=by omega
  rw[e] at h2;exact h2
theorem zay {ph:Bool} {rs:List Rc} (hn:rs.length≤96):Rnl (rhoG 20 220 n n0 r) (flatI (rcP ph 20) 0 rs) (flatI (rcP ph n) 0 rs):=zko Rc.o rs 0 fun j hj=>rcP_R (by omega)
theorem zaA {p:Rp} {k:Nat} (hk:rhoG 20 220 n n0 r 1=k):Rnl (rhoG 20 220 n n0 r) (pRow 20 1 p) (pRow n k p):=by
 unfold pRow;refine Rnl.cons Rn.sc (Rnl.cons Rn.lst (Rnl.cons ?_ (Rnl.cons Rn.lst (Rnl.cons Rn.sc (Rnl.cons slF_R (Rnl.cons slL_R Rnl.nil))))));unfold Rn;rw[hk]
end
section
variable {h : T AO} {z : List Nat} {R : Nat → Option Nat} {a A : Nat} {ρ : Nat → Nat}
def FR (R:Nat→Option Nat) (a A:Nat):Prop:=∀j,j<200→RS R (fam a j)∧RD R (fam a j)=fam A j
def FN (ρ:Nat→Nat) (a A:Nat):Prop:=∀j,j<200→ρ (fam a j)=fam A j
theorem FR.K {r:List Nat}:FR (renK r) 0 0:=fun j hj=>⟨RS_K hj,RD_K hj⟩
theorem FR.L {A:Nat} {r:List Nat}:FR (renL A r) 0 A:=fun j hj=>⟨RS_L hj,RD_L hj⟩
theorem FR.G {A:Nat} {r:List Nat}:FR (RG A [] r) 20 A:=fun j hj=>⟨zjX hj,znk hj zN⟩
theorem FN.L {A n n0:Nat} {r:List Nat}:FN (rhoL A n n0 r) 0 A:=fun j hj=>rhoL_fam hj
theorem znn (H:FR R a A) {j n:Nat} (hj:j<200):NmP (RS R) (.so (fam a j) 0 n 0)∧Wv h z (RD R) (.so (fam a j) 0 n 0) (.so (fam A j) 0 n 0):=by
 refine⟨by unfold NmP;exact(H j hj).1,?_⟩;unfold Wv;exact⟨(H j hj).2.symm,rfl,rfl,rfl⟩
theorem seS_WR (H:FR R a A) {ph:Bool} {i:Nat} {x:Rc} (hi:i<96):NmP (RS R) (seS ph a i x)∧Wv h z (RD R) (seS ph a i x) (seS ph A i x):=by
 unfold seS
 by_cases hs:ph=true∨x.ss=[]
 ·rw[if_pos hs,if_pos hs];exact zc6 rfl
 ·rw[if_neg hs,if_neg hs];exact znn H (by omega)
theorem seE_WR (H:FR R a A) {i:Nat} {x:Rc} (hi:i<96):NmP (RS R) (seE a i x)∧Wv h z (RD R) (seE a i x) (seE A i x):=by
 unfold seE
 by_cases hs:x.es=[]
 ·rw[if_pos hs,if_pos hs];exact zc6 rfl
 ·rw[if_neg hs,if_neg hs];exact znn H (by omega)
theorem slF_WR (H:FR R a A) {l:List Fd}:NmP (RS R) (slF a l)∧Wv h z (RD R) (slF a l) (slF A l):=by
 unfold slF
 by_cases hs:l=[]
 ·rw[if_pos hs,if_pos hs];exact zc6 rfl
 ·rw[if_neg hs,if_neg hs];exact znn H (by omega)
theorem slL_WR (H:FR R a A) {l:List Int}:NmP (RS R) (slL a l)∧Wv h z (RD R) (slL a l) (slL A l):=by
 unfold slL
 by_cases hs:l=[]
 ·rw[if_pos hs,if_pos hs];exact zc6 rfl
 ·rw[if_neg hs,if_neg hs];exact znn H (by omega)
theorem zkY (H:FR R a A) {ph:Bool} {i:Nat} {x:Rc} (hi:i<96):WL h z R (rcP ph a i x) (rcP ph A i x):=by
 unfold rcP
 repeat refine WL.sc rfl ?_
 exact WL.cons (seS_WR H hi) (WL.cons (seE_WR H hi) WL.nil)
theorem recs_WR (H:FR R a A) {ph:Bool} {rs:List Rc} (hn:rs.length≤96):WL h z R (flatI (rcP ph a) 0 rs) (flatI (rcP ph A) 0 rs):=WL.flatI Rc.o rs rs 0 rfl fun j hj=>zkY H (by omega)
theorem zmq (H:FR R a A) {p:Rp} {k k0:Nat} (hk:RS R k∧RD R k=k0):WL h z R (pRow a k p) (pRow A k0 p):=by
 unfold pRow;refine WL.sc rfl (WL.sc rfl (WL.cons ⟨hk.1,?_⟩ (WL.sc rfl (WL.sc rfl (WL.cons (slF_WR H) (WL.cons (slL_WR H) WL.nil))))));unfold Wv;exact⟨hk.2.symm,rfl,rfl,rfl⟩
theorem zno (H:FN ρ a A) {j m:Nat} (hj:j<200):Rn ρ (.so (fam a j) 0 m 0) (.so (fam A j) 0 m 0):=by unfold Rn;rw[H j hj]
theorem seS_RR (H:FN ρ a A) {ph:Bool} {i:Nat} {x:Rc} (hi:i<96):Rn ρ (seS ph a i x) (seS ph A i x):=by
 unfold seS
 by_cases hs:ph=true∨x.ss=[]
 ·rw[if_pos hs,if_pos hs];unfold Rn;rfl
 ·rw[if_neg hs,if_neg hs];exact zno H (by omega)
theorem seE_RR (H:FN ρ a A) {i:Nat} {x:Rc} (hi:i<96):Rn ρ (seE a i x) (seE A i x):=by
 unfold seE
 by_cases hs:x.es=[]
 ·rw[if_pos hs,if_pos hs];unfold Rn;rfl
 ·rw[if_neg hs,if_neg hs];exact zno H (by omega)
theorem znM (H:FN ρ a A) {ph:Bool} {i:Nat} {x:Rc} (hi:i<96):Rnl ρ (rcP ph a i x) (rcP ph A i x):=by
 unfold rcP;exact Rnl.cons Rn.sc (Rnl.cons Rn.sc (Rnl.cons Rn.sc (Rnl.cons Rn.sc (Rnl.cons Rn.sc (Rnl.cons Rn.sc (Rnl.cons Rn.sc (Rnl.cons Rn.lst (Rnl.cons (seS_RR H hi) (Rnl.cons (seE_RR H hi) Rnl.nil)))))))))
theorem zb1 (H:FN ρ a A) {ph:Bool} {rs:List Rc} (hn:rs.length≤96):Rnl ρ (flatI (rcP ph a) 0 rs) (flatI (rcP ph A) 0 rs):=zko Rc.o rs 0 fun j hj=>znM H (by omega)
theorem zl3 {c c':List AV} {v:Value} (hc:Rnl ρ c c'):Rn ρ (.tup [.agg c, .sc v]) (.tup [.agg c', .sc v]):=by
 unfold Rn Rnl;refine⟨by unfold Rn;exact hc,?_⟩;unfold Rnl;exact⟨Rn.sc,by unfold Rnl;trivial⟩
theorem zii (H:FR R a A) {p p':Rp} {k k0:Nat} (hk:RS R k∧RD R k=k0) (hv:p'.v.c=p.v.c∧p'.v.al=p.v.al∧p'.v.rs.length=p.v.rs.length∧p'.v.ds=p.v.ds∧p'.v.mp=p.v.mp) (hf:p'.fd=p.fd∧p'.fl=p.fl):WL h z R (pRow a k p') (pRow A k0 p):=by
 have e:pRow a k p'=pRow a k p:=by unfold pRow;rw[hv.1,hv.2.1,hv.2.2.1,hv.2.2.2.1,hv.2.2.2.2,hf.1,hf.2]
 rw[e];exact zmq H hk
theorem gP_clear {ph:Bool} {p q:Rp} {i:Nat} (hl:q.v.rs.length=p.v.rs.length) (hfd:q.fd=p.fd) (hfl:q.fl=p.fl) (hr:∀k,k≠i→at_ Rc.o q.v.rs k=at_ Rc.o p.v.rs k) (hx:(at_ Rc.o q.v.rs i).ss=[]∧(at_ Rc.o q.v.rs i).es=[]) (h96:i<96):∀j o,gP ph q j=some o→gP ph p j=some o:=by
 intro j o ho;by_cases h1:j=2*i
 ·subst h1;rw[zcJ (by omega),show 2*i/2=i by omega] at ho
  cases hg:q.v.rs[i]? with
  |none=>rw[hg] at ho;cases ho
  |some x=>
   have hi:i<q.v.rs.length:=(List.getElem?_eq_some_iff.1 hg).1
   have:at_ Rc.o q.v.rs i=x:=by unfold at_;rw[hg];rfl
   rw[hg] at ho;simp only at ho;rw[if_pos (by omega),if_pos (.inr (by rw[←this];exact hx.1))] at ho;cases ho
 ·by_cases h2:j=2*i+1
  ·subst h2;rw[zcJ (by omega),show(2*i+1)/2=i by omega] at ho
   cases hg:q.v.rs[i]? with
   |none=>rw[hg] at ho;cases ho
   |some x=>
    have:at_ Rc.o q.v.rs i=x:=by unfold at_;rw[hg];rfl
    rw[hg] at ho;simp only at ho;rw[if_neg (by omega),if_pos (by rw[←this];exact hx.2)] at ho;cases ho
  ·rw[←znx hl hfd hfl hr h1 h2];exact ho
theorem gP_eq {ph:Bool} {p q:Rp} (hl:q.v.rs.length=p.v.rs.length) (hfd:q.fd=p.fd) (hfl:q.fl=p.fl) (hr:∀k,(at_ Rc.o q.v.rs k).ss=(at_ Rc.o p.v.rs k).ss∧(at_ Rc.o q.v.rs k).es=(at_ Rc.o p.v.rs k).es):gP ph q=gP ph p:=by
 funext j
 unfold gP;rw[hfd,hfl];by_cases hk:j/2<p.v.rs.length
 ·obtain⟨h1,h2⟩:=hr (j/2);rw[zaG _ _ _ (by omega),zaG _ _ _ hk] at h1 h2;rw[List.getElem?_eq_getElem (by omega),List.getElem?_eq_getElem hk];simp only;rw[h1,h2]
 ·rw[List.getElem?_eq_none (by omega),List.getElem?_eq_none (by omega)]
theorem zfo {ph:Bool} {p:Rp} {i:Nat} {x:Rc} (hx:x.ss=(at_ Rc.o p.v.rs i).ss∧x.es=(at_ Rc.o p.v.rs i).es):gP ph (p.setR i x)=gP ph p:=by
 refine gP_eq List.length_set rfl rfl fun k=> ?_
 show(at_ Rc.o (p.v.rs.set i x) k).ss=_∧(at_ Rc.o (p.v.rs.set i x) k).es=_;by_cases e:i=k
 ·subst e;by_cases hi:i<p.v.rs.length
  ·rw[zal _ _ _ _ hi];exact hx
  ·have:p.v.rs.set i x=p.v.rs:=List.set_eq_of_length_le (by omega);rw[this];exact⟨rfl,rfl⟩
 ·rw[zau _ _ _ _ _ e];exact⟨rfl,rfl⟩
end
section
variable {h:T AO} {z:List Nat} {R:Nat→Option Nat} {a A:Nat} {r:List Nat} {ph:Bool} {p:Rp} {rs:List Rc} {x y:Nat}
theorem pQ {k:Nat} (h1:RS (RG A [] r) 1) (h2:RD (RG A [] r) 1=k):WOG h z (RG A [] r) (.row (pRow 20 1 p) x y) (.row (pRow A k p) x y):=⟨rfl,rfl,WL.row (zdp ⟨h1,h2⟩ zN)⟩
theorem rQ (hn:rs.length≤96):WOG h z (RG A [] r) (.row (flatI (rcP ph 20) 0 rs) x y) (.row (flatI (rcP ph A) 0 rs) x y):=⟨rfl,rfl,WL.row (zdo hn zN)⟩
theorem gQ {X:Nat→Prop}:∀j o1,gP ph p j=some o1→X j→gP ph p j=some o1∧zbn o1:=fun j o1 h _=>⟨h,zab _ _ j o1 h⟩
theorem pF (H:FR R a A) {k k0:Nat} (hk:RS R k∧RD R k=k0):WOG h z R (.row (pRow a k p) x y) (.row (pRow A k0 p) x y):=⟨rfl,rfl,WL.row (zmq H hk)⟩
theorem rF (H:FR R a A) (hn:rs.length≤96):WOG h z R (.row (flatI (rcP ph a) 0 rs) x y) (.row (flatI (rcP ph A) 0 rs) x y):=⟨rfl,rfl,WL.row (recs_WR H hn)⟩
end
end Ck
namespace Go.Proofs.YtgcjejajljhnaaaGreatDoor
open Go.Ex Ck
set_option maxRecDepth 100000
set_option maxHeartbeats 4000000
theorem zcF (ph:Bool) (p:Rp) (k r i:Int) (hn:p.v.rs.length≤96) (hl:p.fl.length=p.fd.length) (hb:p.fd.length≤1000000):HG Tryz.prog 2 20 220 144 [.ptr 0 0,ib k,ib r,ib i] (gP ph p) [.row (pRow 20 1 p) 106 0, .row (flatI (rcP ph 20) 0 p.v.rs) 66 10] (.tup [])
  (gP ph (p.note k r i)) [.row (pRow 20 1 (p.note k r i)) 106 0, .row (flatI (rcP ph 20) 0 p.v.rs) 66 10]:=by
 refine HG.of kmix (by omega) ?_
 by_cases h0:p.fd=[]
 ·have hl0:p.fl=[]:=List.eq_nil_of_length_eq_zero (by rw[hl,h0];rfl)
  have e1:slF 20 p.fd= .sc (.slice none 0 0):=by rw[h0];rfl
  have e2:slL 20 p.fl= .sc (.slice none 0 0):=by rw[hl0];rfl
  (conv=>whnf);repeat(first|refine NCase.s (Nat.succ_ne_zero _) ?_|refine Need.mk (p:=zah _=true) ?_ ?_;decide+kernel|refine Need.mk ?_ ?_;trivial|rw[e1]|rw[e2]);conv=>whnf
  refine⟨?_⟩;refine Weak.ofG [0,1] [] [(192,221),(193,223)] rfl rfl rfl rfl ?_ ?_ ?_ ?_
  ·refine⟨⟨rfl,rfl,WL.row (WL.sc rfl (WL.sc rfl (WL.cons (zfJ ⟨rfl,rfl⟩) (WL.sc rfl (WL.sc rfl (WL.cons (zmg (by rw[h0];rfl)) (WL.cons (zmf (by rw[hl0];rfl)) WL.nil)))))))⟩,⟨rfl,rfl,WL.row (zdo hn (by simp))⟩,trivial⟩
  ·exact zk7 (fun j h1 h2=>rfl)
  ·exact note_ov rfl (by rw[h0];rfl) rfl (by rw[hl0];rfl)
  ·exact⟨⟨trivial,trivial⟩,trivial⟩
 ·have hl0:p.fl≠[]:=fun e=>h0 (List.eq_nil_of_length_eq_zero (by rw[←hl,e];rfl))
  have e1:slF 20 p.fd= .so (fam 20 192) 0 p.fd.length 0:=zhq h0;have e2:slL 20 p.fl= .so (fam 20 193) 0 p.fl.length 0:=zi5 hl0
  have hb1:(p.fd.length+1)*24≤2^47∧p.fd.length+1≤2^60:=by constructor<;>omega
  have hb2:(p.fl.length+1)*8≤2^47∧p.fl.length+1≤2^60:=by constructor<;>omega
  (conv=>whnf);repeat(first|refine Need.mk ?_ ?_;(focus(first|exact hb1|exact hb2|exact zn1 _|exact znY _))|rw[e1]|rw[e2]|refine RK.of (zf3 ((zaq (by omega)).trans (zlX h0))) ?_|refine RK.of (zf3 ((zaq (by omega)).trans ((zbh (by omega)).trans (zmN hl0)))) ?_|rw[zcW (j:=192) (show 192<220-20 by omega)]|rw[zcW (j:=193) (show 193<220-20 by omega)]|refine NCase.s (Nat.succ_ne_zero _) ?_|refine Need.mk (p:=zah _=true) ?_ ?_;decide+kernel|refine Need.mk ?_ ?_;trivial);conv=>whnf
  refine⟨?_⟩;refine Weak.ofG [0,1] [] [(192,221),(193,223)] rfl rfl rfl rfl ?_ ?_ ?_ ?_
  ·refine⟨⟨rfl,rfl,WL.row (WL.sc rfl (WL.sc rfl (WL.cons (zfJ ⟨rfl,rfl⟩) (WL.sc rfl (WL.sc rfl (WL.cons (zmg rfl) (WL.cons (zmf rfl) WL.nil)))))))⟩,⟨rfl,rfl,WL.row (zdo hn (by simp))⟩,trivial⟩
  ·exact zk7 (fun j h1 h2=>(zbh h2).trans (zbh h1))
  ·exact note_ov rfl rfl rfl rfl
  ·exact⟨⟨trivial,trivial⟩,trivial⟩
end Go.Proofs.YtgcjejajljhnaaaGreatDoor
namespace Ck
theorem zaQ {S:Type} {f:S→Nat→S} {I:S→Prop} (hf:∀s k,I s→I (f s k)) {s:S} (h:I s):∀k,I (it f s k)
 |0=>h
 |k+1=>hf _ _ (zaQ hf h k)
theorem zaJ {S:Type} {f:S→Nat→S} {I:Nat→S→Prop} {n:Nat} (hf:∀s k,k<n→I k s→I (k+1) (f s k)) {s:S} (h:I 0 s):∀k,k≤n→I k (it f s k)
 |0,_=>h
 |k+1,hk=>hf _ _ hk (zaJ hf h k (by omega))
theorem zbc {α:Type} (o:α) (l:List α) (i j:Nat) (x:α):at_ o (l.set i x) j=if i=j∧j<l.length then x else at_ o l j:=by
 by_cases h:i=j
 ·subst h;by_cases h2:i<l.length
  ·rw[if_pos ⟨rfl,h2⟩,zal o l i x h2]
  ·rw[if_neg (by omega)];unfold at_;rw[List.getElem?_eq_none (by simp;omega),List.getElem?_eq_none (by omega)]
 ·rw[if_neg (by omega),zau o l i j x h]
theorem znb {α:Type} (o:α) (l:List α) (i:Nat) (h:l.length≤i):at_ o l i=o:=by unfold at_;rw[List.getElem?_eq_none h];rfl
theorem mem_set {α:Type} {l:List α} {i:Nat} {x y:α} (h:y∈l.set i x):y∈l∨y=x:=by
 rcases List.mem_or_eq_of_mem_set h with h|h
 ·exact .inl h
 ·exact .inr h
def ixL {α:Type} (p:α→Bool):List α→Nat→Int
 |[],_=> -1
 |x::l,i=>if p x then i else ixL p l (i+1)
theorem zds {α:Type} (p:α→Bool):∀(l:List α) (i:Nat),decide (0≤ixL p l i)=l.any p
 |[],i=>by simp[ixL]
 |x::l,i=>by
  unfold ixL;by_cases h:p x=true
  ·rw[if_pos h];simp[h]
  ·rw[if_neg h,zds p l (i+1)];simp[h]
structure Rf (n:Nat) (p:Rp):Prop where
 n:p.v.rs.length=n
 fl:p.fl.length=p.fd.length
 q:∀x∈p.v.rs,1≤x.q∧x.q≤65535
theorem Rf.note {n:Nat} {p:Rp} (h:Rf n p) (k r i:Int):Rf n (p.note k r i):=⟨h.n,by unfold Rp.note;simp[h.fl],h.q⟩
theorem Rf.setR {n:Nat} {p:Rp} (h:Rf n p) (i:Nat) (x:Rc) (hx:1≤x.q∧x.q≤65535):Rf n (p.setR i x):=⟨by unfold Rp.setR;simp[h.n],h.fl,fun y hy=>by
 rcases mem_set hy with hy|rfl
 ·exact h.q y hy
 ·exact hx⟩
theorem Rf.at {n:Nat} {p:Rp} (h:Rf n p) {i:Nat} (hi:i<n):1≤(at_ Rc.o p.v.rs i).q∧(at_ Rc.o p.v.rs i).q≤65535:=h.q _ (at_mem Rc.o p.v.rs i (by rw[h.n];exact hi))
theorem zbF (p:Rp) (k r i:Int):(p.note k r i).fd.length=p.fd.length+1:=by unfold Rp.note;simp
theorem zae (p:Rp) (i:Nat):p.rc i=at_ Rc.o p.v.rs i:=by unfold Rp.rc rc;rw[Int.toNat_natCast]
theorem zlb {n:Nat} {p:Rp} (h:Rf n p):∀k,k≤n→Rf n (it zam p k)∧(it zam p k).fd.length≤p.fd.length+k∧∀j,k≤j→at_ Rc.o (it zam p k).v.rs j=at_ Rc.o p.v.rs j:=
 zaJ (I:=fun k q=>Rf n q∧q.fd.length≤p.fd.length+k∧∀j,k≤j→at_ Rc.o q.v.rs j=at_ Rc.o p.v.rs j) (fun s k hk ⟨h1,h2,h3⟩=>by
  unfold zam;simp only[zae];split
  ·refine⟨(h1.note 0 k 0).setR k _ (by have:=h1.at hk;dsimp only;omega),?_,fun j hj=> ?_⟩
   ·have:=zbF s 0 k 0;show(s.note 0 k 0).fd.length≤_;omega
   ·show at_ Rc.o (s.v.rs.set k _) j=_;rw[zau _ _ _ _ _ (by omega)];exact h3 j (by omega)
  ·exact⟨h1,by omega,fun j hj=>h3 j (by omega)⟩) ⟨h,by omega,fun _ _=>rfl⟩
theorem zlG {n:Nat} {p:Rp} (h:Rf n p):∀k,k≤n→Rf n (it zao p k)∧(it zao p k).fd.length≤p.fd.length+k∧(∀j,k≤j→at_ Rc.o (it zao p k).v.rs j=at_ Rc.o p.v.rs j)∧(it zao p k).v.ds=p.v.ds:=
 zaJ (I:=fun k q=>Rf n q∧q.fd.length≤p.fd.length+k∧(∀j,k≤j→at_ Rc.o q.v.rs j=at_ Rc.o p.v.rs j)∧q.v.ds=p.v.ds) (fun s k hk ⟨h1,h2,h3,h4⟩=>by
  unfold zao;simp only[zae];split
  ·refine⟨(h1.note 2 k 0).setR k _ (h1.at hk),?_,fun j hj=> ?_,h4⟩
   ·have:=zbF s 2 k 0;show(s.note 2 k 0).fd.length≤_;omega
   ·show at_ Rc.o (s.v.rs.set k _) j=_;rw[zau _ _ _ _ _ (by omega)];exact h3 j (by omega)
  ·exact⟨h1,by omega,fun j hj=>h3 j (by omega),h4⟩) ⟨h,by omega,fun _ _=>rfl,rfl⟩
theorem ze4 {α:Type} {o:α} {l:List α} {P:α→Prop} (ho:P o) (h:∀x∈l,P x) (i:Nat):P (at_ o l i):=by
 by_cases hi:i<l.length
 ·exact h _ (at_mem o l i hi)
 ·rw[znb o l i (by omega)];exact ho
theorem ns_at {l:List Rc} (h:∀x∈l,x.ns.length≤100000) (i:Nat):(at_ Rc.o l i).ns.length≤100000:=ze4 (P:=fun x:Rc=>x.ns.length≤100000) (by decide) h i
def NsOk (p:Rp):Prop:=∀x∈p.v.rs,x.ns.length≤100000
theorem NsOk.setR {p:Rp} (h:NsOk p) (i:Nat) (x:Rc) (hx:x.ns.length≤100000):NsOk (p.setR i x):=fun y hy=>by
 rcases mem_set hy with hy|rfl
 ·exact h y hy
 ·exact hx
theorem zlf {n:Nat} {p:Rp} (h:Rf n p) (hns:NsOk p):∀j,j≤n-16→(fun j q=>Rf n q∧q.fd.length≤p.fd.length+j∧NsOk q) j (it (fun q j=>if own (q.rc (16+j:Nat)) then link1 q (16+j) else q) p j):=
 zaJ (I:=fun j q=>Rf n q∧q.fd.length≤p.fd.length+j∧NsOk q) (n:=n-16) (fun s k hk ⟨h1,h2,h3⟩=>by
  split
  ·unfold link1;simp only[zae];split
   ·refine⟨(h1.note 8 _ 0).setR _ _ (h1.at (by omega)),?_,NsOk.setR (p:=s.note 8 _ 0) h3 _ _ (ns_at h3 _)⟩;have:=zbF s 8 ((16+k:Nat):Int) 0;show(s.note 8 ((16+k:Nat):Int) 0).fd.length≤_;omega
   ·exact⟨h1,by omega,h3⟩
  ·exact⟨h1,by omega,h3⟩) ⟨h,by omega,hns⟩
structure Rg (n:Nat) (p:Rp):Prop where
 rf:Rf n p
 se:∀x∈p.v.rs,x.ss.length≤100000∧x.es.length≤1000
theorem Rg.setR {n:Nat} {p:Rp} (h:Rg n p) (i:Nat) (x:Rc) (hx:1≤x.q∧x.q≤65535) (hs:x.ss.length≤100000∧x.es.length≤1000):Rg n (p.setR i x):=⟨h.rf.setR i x hx,fun y hy=>by
 rcases mem_set hy with hy|rfl
 ·exact h.se y hy
 ·exact hs⟩
theorem Rg.note {n:Nat} {p:Rp} (h:Rg n p) (k r i:Int):Rg n (p.note k r i):=⟨h.rf.note k r i,h.se⟩
theorem Rg.at {n:Nat} {p:Rp} (h:Rg n p) {i:Nat} (hi:i<n):(at_ Rc.o p.v.rs i).ss.length≤100000∧(at_ Rc.o p.v.rs i).es.length≤1000:=h.se _ (at_mem Rc.o p.v.rs i (by rw[h.rf.n];exact hi))
theorem zj5 {n i:Nat} {p:Rp} (h:Rg n p) (hi:i<n):∀k,Rg n (it (sizeStep i) p k)∧(it (sizeStep i) p k).fd.length≤p.fd.length+k∧(at_ Rc.o (it (sizeStep i) p k).v.rs i).es.length=(at_ Rc.o p.v.rs i).es.length
 |0=>⟨h,by show p.fd.length≤_;omega,rfl⟩
 |k+1=>by
  obtain⟨h1,h2,h3⟩:=zj5 h hi k;have e:it (sizeStep i) p (k+1)=sizeStep i (it (sizeStep i) p k) k:=rfl;rw[e]
  generalize it (sizeStep i) p k=q at*
  have key:Rg n (sizeStep i q k)∧(sizeStep i q k).fd.length≤q.fd.length+1∧(at_ Rc.o (sizeStep i q k).v.rs i).es.length=(at_ Rc.o q.v.rs i).es.length:=by
   unfold sizeStep;simp only[zae];split
   ·refine⟨(h1.note 9 i k).setR i _ (h1.rf.at hi) ⟨(h1.at hi).1,by rw[List.length_set];exact(h1.at hi).2⟩,?_,?_⟩
    ·have:=zbF q 9 i k;show(q.note 9 i k).fd.length≤_;omega
    ·show(at_ Rc.o (q.v.rs.set i _) i).es.length=_;rw[zal _ _ _ _ (by rw[h1.rf.n];exact hi)];exact List.length_set
   ·exact⟨h1,by omega,rfl⟩
  exact⟨key.1,by have:=key.2.1;omega,key.2.2.trans h3⟩
theorem zgm {n B:Nat} {p:Rp} (hB:B=1000) (h:Rg n p):∀k,k≤n→Rg n (it zak p k)∧(it zak p k).fd.length≤p.fd.length+k*B
 |0,_=>⟨h,by show p.fd.length≤_;omega⟩
 |k+1,hk=>by
  obtain⟨h1,h2⟩:=zgm hB h k (by omega);have e:it zak p (k+1)=zak (it zak p k) k:=rfl;rw[e]
  generalize it zak p k=q at*
  have hm:(k+1)*B=k*B+B:=by rw[Nat.add_mul,Nat.one_mul]
  unfold zak;simp only[zae];split
  ·obtain⟨h3,h4,_⟩:=zj5 h1 (show k<n by omega) (at_ Rc.o q.v.rs k).es.length;have h5:=(h1.at (show k<n by omega)).2;exact⟨h3,by omega⟩
  ·exact⟨h1,by omega⟩
end Ck
namespace Ck
open Go Go.Ex
noncomputable def rgC (ph:Bool) (A:Nat) (v:Pt) (r:Ref):List AV:=if wi r.r 0 (v.rs.length-1)=true then rcP ph A r.r.toNat (at_ Rc.o v.rs r.r.toNat) else [bb false,ib 0,ib 0,ib 0,ib 0,ib 0,ib 0, .sc (.slice none 0 0), .sc (.slice none 0 0), .sc (.slice none 0 0)]
theorem zoi {ρ:Nat→Nat} {a A:Nat} (H:FN ρ a A) {ph:Bool} {v:Pt} {q:Ref} (hn:v.rs.length≤96):Rnl ρ (rgC ph a v q) (rgC ph A v q):=by
 unfold rgC;by_cases hw:wi q.r 0 (v.rs.length-1)=true
 ·have h2:0≤q.r∧q.r<v.rs.length:=by simp[wi] at hw;omega
  rw[if_pos hw,if_pos hw];exact znM H (by omega)
 ·rw[if_neg hw,if_neg hw]
  repeat(first|exact Rnl.nil|refine Rnl.cons Rn.sc ?_)
theorem zj7 (ph:Bool) (A:Nat) (v:Pt) (q:Ref):∀y∈rgC ph A v q,oneA y=true:=by
 unfold rgC;by_cases hw:wi q.r 0 (v.rs.length-1)=true
 ·rw[if_pos hw];exact zie _ _ _ _
 ·rw[if_neg hw];intro y hy;simp only[List.mem_cons,List.not_mem_nil,or_false] at hy
  rcases hy with rfl|rfl|rfl|rfl|rfl|rfl|rfl|rfl|rfl|rfl<;>rfl
theorem zj8 (ph:Bool) (A:Nat) (v:Pt) (q:Ref):(rgC ph A v q).length=10:=by
 unfold rgC;split<;>rfl
theorem zeq {P:Program} {s:St} {K:KC} {T:TypeId} {b off n:Nat} {c c':List AV} {e:TypeId} {q:Nat} (hoff:off=0) (hT:tyS P T= .ok (true,n)) (hl:c'.length=n) (h1:∀y∈c',oneA y=true) (hr:s.h.get b=some (.row c e q)) (hc:c.length=n) (hk:(s.set b (.row c' e q)).nfK fun s=>K AV.undef s):zdZ (zcD P s T (.ptr b off) (.agg c')) K:=by
 subst hoff;exact zdf (zdg rfl hT hl h1 hr (by omega) (by rw[List.take_zero,List.nil_append,Nat.zero_add,←hc,List.drop_length,List.append_nil];rfl)) hk
def zC (q:Int):List AV:=[bb false,ib q,ib 0,ib 0,ib 0,ib 0,ib 0, .sc (.slice none 0 0), .sc (.slice none 0 0), .sc (.slice none 0 0)]
theorem zC_W {h:T AO} {z:List Nat} {R:Nat→Option Nat} {ph:Bool} {a i:Nat} {q:Int}:WL h z R (rcP ph a i {Rc.o with q:=q}) (zC q):=by
 unfold rcP;rw[zkQ (.inr rfl),zdh rfl];exact WL.sc rfl (WL.sc rfl (WL.sc rfl (WL.sc rfl (WL.sc rfl (WL.sc rfl (WL.sc rfl (WL.cons ⟨trivial,Wv.nil rfl⟩ (WL.cons ⟨trivial,Wv.nil rfl⟩ (WL.cons ⟨trivial,Wv.nil rfl⟩ WL.nil)))))))))
end Ck
namespace Go.Proofs.YtgcjejajljhnaaaGreatDoor
open Go.Ex Ck
set_option maxRecDepth 100000
set_option maxHeartbeats 4000000
theorem zgW (x:Rc):PureC Tryz.prog 61 [.agg [bb x.u, .any,ib x.k, .any, .any, .any, .any, .any, .any, .any]] (bb (Ck.own x)):=by
 refine PureC.of kmix rfl ?_
 conv=>whnf
 unfold Ck.own;cases hu:x.u
 all_goals
  (conv=>whnf);repeat(first|refine KIf.t rfl ?_|refine KIf.f rfl ?_);conv=>whnf
  refine .z [] ?_;(conv=>whnf);rfl
theorem zkj (x:Rc):PureC Tryz.prog 102 [.agg [bb x.u, .any,ib x.k, .any, .any, .any, .any, .any, .any, .any]] (bb (Ck.dir x)):=by
 refine PureC.of kmix rfl ?_
 conv=>whnf
 unfold Ck.dir;cases hu:x.u
 all_goals
  (conv=>whnf);repeat(first|refine KIf.t rfl ?_|refine KIf.f rfl ?_);conv=>whnf
  refine .z [] ?_;(conv=>whnf);rfl
theorem zfP {h:T AO} {z:List Nat} {ph:Bool} {A i:Nat} {x:Rc}:Wzl h z [.agg [bb x.u, .any,ib x.k, .any, .any, .any, .any, .any, .any, .any]] [.agg (rcP ph A i x)]:=
 Wzc (by unfold Wz;exact Wzc (zaa rfl) (Wzc Wza (Wzc (zaa rfl) (Wzc Wza (Wzc Wza (Wzc Wza (Wzc Wza (Wzc Wza (Wzc Wza (Wzc Wza Wzn)))))))))) Wzn
theorem right_h (n:Nat) (ph:Bool) (p:Rp) (r:Ref) (hn:p.v.rs.length=n) (h96:n≤96):HK Tryz.prog 1 101 [.agg [ib p.v.c,LS 2 aRun Run.o p.v.al, .so 200 0 n 0,LS 1 aI 0 p.v.ds,tb p.v.mp], .agg (aRef r)] (gP ph p) [.row (flatI (rcP ph 0) 0 p.v.rs) 66 10]
  (.tup [.agg (rgC ph 0 p.v r),bb (Ck.right p.v r)]) (gP ph p) [.row (flatI (rcP ph 0) 0 p.v.rs) 66 10]:=by
 refine HK.of kmix (by omega) ?_
 have hn96:p.v.rs.length≤96:=by omega
 have hrc:Ck.rc p.v r.r=at_ Rc.o p.v.rs r.r.toNat:=rfl;by_cases h:wi r.r 0 (p.v.rs.length-1)=true
 ·have h2:0≤r.r∧r.r<n:=by simp[wi] at h;omega
  have hw:wi r.r 0 (n-1)=true:=by rw[←hn];exact h
  have hlt:r.r.toNat<p.v.rs.length:=by omega
  have hsp:Small (n-1):=⟨by omega,by omega⟩
  have hres:Ck.right p.v r=(Ck.own (at_ Rc.o p.v.rs r.r.toNat)&&decide ((at_ Rc.o p.v.rs r.r.toNat).q=r.q)):=by unfold Ck.right;rw[h,hrc];simp;rfl
  have hcs:rgC ph 0 p.v r=rcP ph 0 r.r.toNat (at_ Rc.o p.v.rs r.r.toNat):=if_pos h;rw[hres,hcs]
  obtain⟨ob,hob⟩:∃b,Ck.own (at_ Rc.o p.v.rs r.r.toNat)=b:=⟨_,rfl⟩
  have hown:=zgW (at_ Rc.o p.v.rs r.r.toNat);rw[hob] at hown⊢
  (conv=>whnf);repeat(first|refine KCall.pure (za6 _ _ _) ?_|refine Need.mk ?_ ?_;(focus(first|exact hsp|exact h2))|refine KIf.f (by rw[hw];rfl) ?_|refine RK.of (zcI (zat ph 0) Rc.o (Nat.zero_add _) rfl rfl hlt rfl) ?_|refine zeq rfl rfl rfl (zie _ _ _ _) rfl rfl ?_|refine DCall.lend ([]) (hown) rfl ?_ ?_;exact zfP|refine Need.mk (p:=zah _=true) ?_ ?_;decide+kernel|refine Need.mk ?_ ?_;trivial);conv=>whnf
  cases ob
  all_goals
   (conv=>whnf);repeat(first|refine Need.mk ?_ ?_;exact rfl|refine zeq (c':=rcP ph 0 r.r.toNat (at_ Rc.o p.v.rs r.r.toNat)) rfl rfl rfl (zie _ _ _ _) rfl rfl ?_|refine KIf.t rfl ?_|refine KIf.f rfl ?_);conv=>whnf
   refine⟨?_⟩;refine Weak.ofK [200] [] rfl rfl rfl rfl ?_ ?_ ?_
   ·exact⟨rF FR.K hn96,trivial⟩
   ·exact(fun j o1 h=>⟨h,zab _ _ j o1 h⟩)
   ·exact⟨znH (zkY FR.K (by omega)),trivial⟩
 ·have h2:wi r.r 0 (n-1)=false:=by rw[←hn];simpa using h
  have hsp:Small (n-1):=⟨by omega,by omega⟩
  (conv=>whnf);repeat(first|refine KCall.pure (za6 _ _ _) ?_|refine Need.mk ?_ ?_;exact hsp|refine KIf.t (by rw[h2];rfl) ?_);conv=>whnf
  have hres:Ck.right p.v r=false:=by unfold Ck.right;rw[hn,h2];rfl
  have hcs:rgC ph 0 p.v r=[bb false,ib 0,ib 0,ib 0,ib 0,ib 0,ib 0, .sc (.slice none 0 0), .sc (.slice none 0 0), .sc (.slice none 0 0)]:=if_neg h;rw[hres,hcs];refine⟨?_⟩;refine Weak.ofK [200] [] rfl rfl rfl rfl ?_ ?_ ?_
  ·exact⟨rF FR.K hn96,trivial⟩
  ·exact(fun j o1 h=>⟨h,zab _ _ j o1 h⟩)
  ·exact⟨znH (by repeat first|exact WL.nil|refine WL.sc rfl ?_),trivial⟩
theorem zib {n:Nat} (ph:Bool) (p:Rp) (r:Ref) {b:Bool} (hb:Ck.right p.v r=b) (hn:p.v.rs.length=n∧n≤96):HK Tryz.prog 1 101 [.agg [ib p.v.c,LS 2 aRun Run.o p.v.al, .so 200 0 n 0,LS 1 aI 0 p.v.ds,tb p.v.mp], .agg (aRef r)] (gP ph p) [.row (flatI (rcP ph 0) 0 p.v.rs) 66 10]
  (.tup [.agg (rgC ph 0 p.v r),bb b]) (gP ph p) [.row (flatI (rcP ph 0) 0 p.v.rs) 66 10]:=by
 rw[←hb];exact right_h n ph p r hn.1 hn.2
theorem lost_h (n:Nat) (ph:Bool) (p:Rp) (hf:Rf n p) (hn:n≤96) (hb:p.fd.length≤100000):HG Tryz.prog 2 20 220 104 [.ptr 0 0] (gP ph p) [.row (pRow 20 1 p) 106 0, .row (flatI (rcP ph 20) 0 p.v.rs) 66 10] (.tup [])
  (gP ph (lostParts p)) [.row (pRow 20 1 (lostParts p)) 106 0, .row (flatI (rcP ph 20) 0 (lostParts p).v.rs) 66 10]:=by
 have hpn:p.v.rs.length=n:=hf.n
 have h96:p.v.rs.length≤96:=by omega
 subst hpn;refine HG.of kmix (by omega) ?_
 conv=>whnf
 refine WLoop.inv kmix (D:=Nat) (fun d=>p.v.rs.length-d) (fun d=>d≤p.v.rs.length) (fun d=>slots [(0, .ptr 0 0),(10, .so 1 0 p.v.rs.length 0),(11,ib p.v.rs.length),(12,ib d)] 54)
  (fun d=>zax 20 220 (gP ph (it zam p d)) [.row (pRow 20 1 (it zam p d)) 106 0, .row (flatI (rcP ph 20) 0 (it zam p d).v.rs) 66 10]) 0 (Nat.zero_le _) ?_ ?_
 ·refine Weak.ofG [0,1] [] [] rfl rfl rfl rfl ?_ ?_ ?_ ?_
  ·exact⟨pQ rfl rfl,rQ h96,trivial⟩
  ·exact gQ
  ·exact zN
  ·(repeat' first|exact zT|exact rfl|refine zA ?_ ?_)
 ·intro d hd;obtain⟨h1,h2,h3⟩:=zlb hf d hd;have hst:it zam p (d+1)=zam (it zam p d) d:=rfl
  have hfin:d=p.v.rs.length→it zam p d=lostParts p:=fun e=>by rw[e];rfl
  generalize it zam p d=q at*
  have hqn:q.v.rs.length=p.v.rs.length:=h1.n
  have hq96:q.v.rs.length≤96:=by omega
  conv=>whnf
  refine KIf.dec (fun h=> ?_) (fun h=> ?_)
  ·have hltq:d<q.v.rs.length:=by omega
   have hoff:0+((d:Nat):Int).toNat*10=d*10:=by simp
   obtain⟨b,hb2⟩:∃b,Ck.right q.v (at_ Rc.o q.v.rs d).b=b:=⟨_,rfl⟩
   (conv=>whnf);repeat(first|refine RK.of (zcI (zat ph 20) Rc.o hoff rfl rfl hltq rfl) ?_|refine zeo rfl rfl rfl rfl ?_|refine DCall.liftK [1] (.tup [.agg (rgC ph 20 q.v (at_ Rc.o q.v.rs d).b),bb b]) [.row (flatI (rcP ph 20) 0 q.v.rs) 66 10] (zib ph q (at_ Rc.o q.v.rs d).b hb2 ⟨rfl,hq96⟩) rfl (zab _ _) (zab _ _) ?_ ?_ ?_ ?_;exact⟨rF FR.L hq96,trivial⟩;(focus((repeat' first|exact zT|exact rfl|(intro _ _;exact rfl)|refine zA ?_ ?_)));exact⟨zl3 (zoi FN.L hq96),rfl,⟨⟨rfl,rfl, .inl (zb1 FN.L hq96)⟩,trivial⟩⟩|refine zeq (c':=rgC ph 20 q.v (at_ Rc.o q.v.rs d).b) rfl rfl (zj8 _ _ _ _) (zj7 _ _ _ _) rfl rfl ?_|refine Need.mk (p:=zah _=true) ?_ ?_;decide+kernel|refine Need.mk ?_ ?_;omega);conv=>whnf
   have hls:zam q d=if(at_ Rc.o q.v.rs d).u&&(at_ Rc.o q.v.rs d).k==3&& !b then(q.note 0 d 0).setR d {Rc.o with q:=(at_ Rc.o q.v.rs d).q%65535+1} else q:=by unfold zam;simp only[zae];rw[hb2]
   obtain⟨u,hu⟩:∃u,(at_ Rc.o q.v.rs d).u=u:=⟨_,rfl⟩
   rw[hu] at hls
   have stay:∀{t:Tm} {s:St} {q':Ck.Rp},zam q d=q'→Weak 2 t s (slots [(0, .ptr 0 0),(10, .so 1 0 p.v.rs.length 0),(11,ib p.v.rs.length),(12,ib (d+1:Nat))] 54) (zax 20 220 (gP ph q') [.row (pRow 20 1 q') 106 0, .row (flatI (rcP ph 20) 0 q'.v.rs) 66 10])→
     Weak 2 t s (slots [(0, .ptr 0 0),(10, .so 1 0 p.v.rs.length 0),(11,ib p.v.rs.length),(12,ib (d+1:Nat))] 54) (zax 20 220 (gP ph (it zam p (d+1))) [.row (pRow 20 1 (it zam p (d+1))) 106 0, .row (flatI (rcP ph 20) 0 (it zam p (d+1)).v.rs) 66 10]):=fun he hw=>by rw[hst,he];exact hw
   cases u
   ·(conv=>whnf);repeat(first|refine KIf.f hu ?_|refine KIf.f rfl ?_|refine Need.mk ?_ ?_;((constructor<;>omega)));conv=>whnf
    refine⟨d+1,by omega,by dsimp only;omega,stay hls ?_⟩
    (refine Weak.ofG [0,1] [] [] rfl rfl rfl rfl ?_ ?_ ?_ ?_;exact⟨pQ rfl rfl,rQ hq96,trivial⟩;exact gQ;exact zN;(focus((repeat' first|exact zT|exact rfl|refine zA ?_ ?_))))
   ·by_cases hk:(at_ Rc.o q.v.rs d).k=3
    ·cases b
     ·have hls2:zam q d=(q.note 0 d 0).setR d {Rc.o with q:=(at_ Rc.o q.v.rs d).q%65535+1}:=by rw[hls,hk];rfl
      have hxq:=h1.at (show d<p.v.rs.length by omega);have htm:(at_ Rc.o q.v.rs d).q.tmod 65535=(at_ Rc.o q.v.rs d).q%65535:=Int.tmod_eq_emod_of_nonneg (by omega)
      have hsm:Small ((at_ Rc.o q.v.rs d).q.tmod 65535+1):=by rw[htm];exact⟨by omega,by omega⟩
      have hoff2:0+((d:Nat):Int).toNat*10=d*10+0:=by simp
      have hd0:(0:Int)≤(d:Nat)∧((d:Nat):Int)<((q.note 0 d 0).v.rs.length:Nat):=⟨by omega,by show((d:Nat):Int)<(q.v.rs.length:Nat);omega⟩
      (conv=>whnf);repeat(first|refine Need.mk ?_ ?_;(focus(first|exact hsm|exact hd0))|refine KIf.t hu ?_|refine KIf.t (decide_eq_true hk) ?_|refine KCall.liftG [0,1] (.tup []) [.row (pRow 241 1 (q.note 0 d 0)) 106 0, .row (flatI (rcP ph 241) 0 ((q.note 0 d 0)).v.rs) 66 10] (zcF ph q 0 d 0 hq96 h1.fl (by omega)) rfl (zab _ _) (zab _ _) ?_ ?_ ?_ ?_;exact⟨pF FR.G ⟨rfl,rfl⟩,rF FR.G hq96,trivial⟩;(focus((repeat' first|exact zT|exact rfl|refine zA ?_ ?_)));exact⟨(by unfold Rn Rnl;trivial),rfl,⟨⟨rfl,rfl, .inl (zaA rfl)⟩,⟨rfl,rfl, .inl (zay hq96)⟩,trivial⟩⟩|refine zbC (zat ph 241) Rc.o (zC ((at_ Rc.o q.v.rs d).q.tmod 65535+1)) (zC ((at_ Rc.o q.v.rs d).q.tmod 65535+1)) hoff2 rfl rfl rfl rfl rfl rfl hltq (by decide) rfl ?_|refine KIf.t rfl ?_|refine Need.mk (p:=zah _=true) ?_ ?_;decide+kernel|refine Need.mk ?_ ?_;(first|trivial|(constructor<;>omega)));conv=>whnf
      rw[htm];refine⟨d+1,by omega,by dsimp only;omega,stay hls2 ?_⟩;refine Weak.ofG [0,1] [] [] rfl rfl rfl rfl ?_ ?_ ?_ ?_
      ·refine⟨⟨rfl,rfl,WL.row (zii (p:=q.note 0 d 0) FR.G ⟨rfl,rfl⟩ ⟨rfl,rfl,List.length_set,rfl,rfl⟩ ⟨rfl,rfl⟩)⟩,⟨rfl,rfl,WL.row (zbf (i:=d) hq96 List.length_set (fun k hk=>zau _ _ _ _ _ (Ne.symm hk)) zN ?_)⟩,trivial⟩;show WL _ _ _ (rcP ph 20 d (at_ Rc.o (q.v.rs.set d _) d)) _;rw[zal _ _ _ _ hltq];exact zC_W
      ·refine fun j o1 h _=>⟨gP_clear (i:=d) (p:=q.note 0 d 0) (q:=(q.note 0 d 0).setR d {Rc.o with q:=(at_ Rc.o q.v.rs d).q%65535+1}) List.length_set rfl rfl (fun k hk=>zau _ _ _ _ _ (Ne.symm hk)) ?_ (by omega) j o1 h,zab _ _ j o1 h⟩
       show(at_ Rc.o (q.v.rs.set d _) d).ss=[]∧(at_ Rc.o (q.v.rs.set d _) d).es=[]
       rw[zal _ _ _ _ hltq];exact⟨rfl,rfl⟩
      ·exact zN
      ·(repeat' first|exact zT|exact rfl|refine zA ?_ ?_)
     ·(conv=>whnf);repeat(first|refine KIf.t hu ?_|refine KIf.t (decide_eq_true hk) ?_|refine KIf.f rfl ?_|refine Need.mk ?_ ?_;((constructor<;>omega)));conv=>whnf
      refine⟨d+1,by omega,by dsimp only;omega,stay (q':=q) (by rw[hls];simp) ?_⟩
      (refine Weak.ofG [0,1] [] [] rfl rfl rfl rfl ?_ ?_ ?_ ?_;exact⟨pQ rfl rfl,rQ hq96,trivial⟩;exact gQ;exact zN;(focus((repeat' first|exact zT|exact rfl|refine zA ?_ ?_))))
    ·(conv=>whnf);repeat(first|refine KIf.t hu ?_|refine KIf.f (decide_eq_false hk) ?_|refine KIf.f rfl ?_|refine Need.mk ?_ ?_;((constructor<;>omega)));conv=>whnf
     refine⟨d+1,by omega,by dsimp only;omega,stay (q':=q) (by rw[hls];simp[hk]) ?_⟩
     (refine Weak.ofG [0,1] [] [] rfl rfl rfl rfl ?_ ?_ ?_ ?_;exact⟨pQ rfl rfl,rQ hq96,trivial⟩;exact gQ;exact zN;(focus((repeat' first|exact zT|exact rfl|refine zA ?_ ?_))))
  ·conv=>whnf
   rw[←hfin (by omega)];refine⟨?_⟩
   (refine Weak.ofG [0,1] [] [] rfl rfl rfl rfl ?_ ?_ ?_ ?_;exact⟨pQ rfl rfl,rQ hq96,trivial⟩;exact gQ;exact zN;(focus((repeat' first|exact zT|refine zA ?_ ?_))))
set_option maxHeartbeats 1000000
theorem g78 :(Tryz.prog.eqGuardType Tryz.prog.depth 78)=false:=by decide+kernel
theorem h78 :(Tryz.prog.stoodInHeld 78)=false:=by decide+kernel
theorem zlx (a b:Run):eqO Tryz.prog 78 (.agg (aRun a)) (.agg (aRun b))= .ok (decide (a.s=b.s)&&(decide (a.l=b.l)&&true)):=by
 have e1:bd (ty Tryz.prog 78) (fun i=>eqA i.d (.agg (aRun a)) (.agg (aRun b)))= .no "comparison" :=by
  conv=>lhs;whnf
 have e2:eqT Tryz.prog 20 78 (.agg (aRun a)) (.agg (aRun b))= .ok (decide (a.s=b.s)&&(decide (a.l=b.l)&&true)):=by
  rw[eqT];rw[h78];rfl
 unfold eqO;rw[e1];show eqW _ _ _ _=_;unfold eqW;rw[g78];exact e2
theorem zoF (a b:Run):(decide (a.s=b.s)&&(decide (a.l=b.l)&&true))=decide (a=b):=by
 obtain⟨s,l⟩:=a;obtain⟨s',l'⟩:=b;simp[Run.mk.injEq]
theorem g61 :(Tryz.prog.eqGuardType Tryz.prog.depth 61)=false:=by decide+kernel
theorem h61 :(Tryz.prog.stoodInHeld 61)=false:=by decide+kernel
theorem g71 :(Tryz.prog.eqGuardType Tryz.prog.depth 71)=false:=by decide+kernel
theorem h71 :(Tryz.prog.stoodInHeld 71)=false:=by decide+kernel
theorem g73 :(Tryz.prog.eqGuardType Tryz.prog.depth 73)=false:=by decide+kernel
theorem h73 :(Tryz.prog.stoodInHeld 73)=false:=by decide+kernel
theorem bdok {α β:Type} {r:R α} {b:α} {k:α→R β} (h:r= .ok b):bd r k=k b:=by rw[h];rfl
theorem zkq (n:Nat) (a b:Ref):eqT Tryz.prog (n+2) 61 (.agg (aRef a)) (.agg (aRef b))= .ok (decide (a.r=b.r)&&(decide (a.q=b.q)&&true)):=by
 rw[eqT];rw[h61];rfl
theorem eqT_nm (a b:Nm):eqT Tryz.prog 20 71 (.agg (aNm a)) (.agg (aNm b))= .ok ((decide (a.d.r=b.d.r)&&(decide (a.d.q=b.d.q)&&true))&&(decide (a.n=b.n)&&true)):=by
 rw[eqT];rw[h71]
 conv=>lhs;whnf
 have e:eqT Tryz.prog 19 61 (.agg [ib a.d.r,ib a.d.q]) (.agg [ib b.d.r,ib b.d.q])=_:=zkq 17 a.d b.d;dsimp only;rw[e];rfl
theorem eqT_en (a b:En):eqT Tryz.prog 20 73 (.agg (aEn a)) (.agg (aEn b))= .ok (decide (a.n=b.n)&&((decide (a.f.r=b.f.r)&&(decide (a.f.q=b.f.q)&&true))&&(decide (a.z=b.z)&&true))):=by
 rw[eqT];rw[h73]
 conv=>lhs;whnf
 have e:eqT Tryz.prog 19 61 (.agg [ib a.f.r,ib a.f.q]) (.agg [ib b.f.r,ib b.f.q])=_:=zkq 17 a.f b.f;refine(bdok (b:=(decide (a.f.r=b.f.r)&&(decide (a.f.q=b.f.q)&&true))&&(decide (a.z=b.z)&&true)) ?_).trans rfl
 conv=>lhs;whnf
 dsimp only;rw[e];rfl
theorem zmU {P:Program} {T:TypeId} {x y:AV} {e:String} {r:R Bool} (e1:bd (ty P T) (fun i=>eqA i.d x y)= .no e) (g:P.eqGuardType P.depth T=false) (h:eqT P 20 T x y=r):eqO P T x y=r:=by
 unfold eqO;rw[e1];show eqW _ _ _ _=_;unfold eqW;rw[g];exact h
theorem zoj (a b:Ref):(decide (a.r=b.r)&&(decide (a.q=b.q)&&true))=decide (a=b):=by
 obtain⟨s,l⟩:=a;obtain⟨s',l'⟩:=b;simp[Ref.mk.injEq]
theorem zaY (a b:Ref):eqO Tryz.prog 61 (.agg (aRef a)) (.agg (aRef b))= .ok (decide (a=b)):=by
 rw[←zoj];exact zmU (e:= "comparison") (by conv=>lhs;whnf) g61 (zkq 18 a b)
theorem zmV (a b:Nm):eqO Tryz.prog 71 (.agg (aNm a)) (.agg (aNm b))= .ok (decide (a=b)):=by
 have h:=eqT_nm a b;rw[zoj] at h;refine zmU (e:= "comparison") (by conv=>lhs;whnf) g71 (h.trans ?_);obtain⟨s,l⟩:=a;obtain⟨s',l'⟩:=b;simp[Nm.mk.injEq]
theorem eqO_en (a b:En):eqO Tryz.prog 73 (.agg (aEn a)) (.agg (aEn b))= .ok (decide (a=b)):=by
 have h:=eqT_en a b;rw[zoj] at h;refine zmU (e:= "comparison") (by conv=>lhs;whnf) g73 (h.trans ?_);obtain⟨s,l,m⟩:=a;obtain⟨s',l',m'⟩:=b;simp[En.mk.injEq]
theorem zeh {P:Program} {T e:TypeId} {d:Ty} {sz n:Nat} {f:Nat→List AV} (hi:ty P T= .ok d) (hd:d.d= .slice e) (h:0<n):eqO P T (.lst sz n f) (.sc (.slice none 0 0))= .ok false:=by
 have hb:Nat.blt 0 n=true:=zd4 h;unfold eqO;rw[hi];simp only[bd,hd,eqA,hb]
theorem mt2 {P:Program} (hmix:P.follows .mixedOrders=true) {f:FuncId} {sz sz':Nat} {g g':Nat→List AV} (h1:∀s,CallOk P f [.sc (.slice none 0 0)] s (.sc (.slice none 0 0)) s) (h2:∀a cap,funK P 0 f [.sc (.slice (some a) 0 cap)] ⟨.e,0⟩ (PRet (.lst sz' 0 g'))):PureC P f [.lst sz 0 g] (.lst sz' 0 g'):=by
 intro s0 m w args' hR hok hfr;obtain⟨x,_,rfl,⟨A,cap,rfl,hcap,hA,_⟩,rfl⟩:=hR
 cases A with
 |none=>
  obtain⟨_,rfl⟩:=hA (.inl rfl);refine Calls.mono (h1 s0 m w _ ⟨_,_,rfl,rfl,rfl⟩ hok hfr) ?_;rintro e w' ⟨y,m',rfl,hg,hy⟩;cases hy;exact⟨_,m',rfl,hg,⟨none,0,rfl,Nat.le_refl _,fun _=>⟨rfl,rfl⟩,fun i hi=>absurd hi (Nat.not_lt_zero _)⟩⟩
 |some a=>exact PureC.core hmix (h2 a cap) hok (m0:=⟨fun _=>none,m.z⟩) rfl (fun _ _=>rfl) ⟨_,_,rfl,rfl,rfl⟩
end Go.Proofs.YtgcjejajljhnaaaGreatDoor
namespace Ck
open Go Go.Ex
theorem contL_map {α:Type} {enc:α→AV} (h:∀x,cont (enc x)=true):∀l:List α,cont.contL (l.map enc)=true
 |[]=>rfl
 |x::l=>by
  show(match cont (enc x) with|true=>cont.contL (l.map enc)|false=>false)=true;rw[h x];exact contL_map h l
theorem zdd {h:T AO} {z r:List Nat} {c1 c:List AV} (h1:c1=c) (hc:cont.contL c1=true):WRow h z r c1 c:=Or.inr ⟨h1,h1▸hc⟩
theorem zfd {α:Type} (enc:α→AV) (pre Q:List α) (x:α):([]++(Q++[x])).map enc=((pre++Q).map enc).drop pre.length++[enc x]:=by simp
theorem zdc {x:AV} (n:Nat) (v:Value) (hv:v.cells.toList.map AV.sc=[x]):zeros n v=List.replicate n x:=by
 unfold zeros;rw[hv]
 induction n with
 |zero=>rfl
 |succ n ih=>rw[List.replicate_succ,List.replicate_succ,List.flatten_cons,ih];rfl
section
variable {P : Program} {s : St} {K : KC}
theorem loadM {α:Type} (enc:α→AV) (o:α) {l:List α} {T:TypeId} {b j off:Nat} {e:TypeId} {q n:Nat} (hoff:off=j) (hT:tyS P T= .ok (false,n)) (hr:s.h.get b=some (.row (l.map enc) e q)) (hj:j<l.length):zct P s T b off= .ok (enc (at_ o l j)):=by
 subst hoff;refine zjs hr hT ?_;rw[List.getElem?_map,List.getElem?_eq_getElem hj];rw[zaG _ _ _ hj];rfl
theorem loadMx {α:Type} (enc:α→AV) (o x:α) {l:List α} {T:TypeId} {b j off:Nat} {e:TypeId} {q n:Nat} (hx:at_ o l j=x) (hoff:off=j) (hT:tyS P T= .ok (false,n)) (hr:s.h.get b=some (.row (l.map enc) e q)) (hj:j<l.length):zct P s T b off= .ok (enc x):=by
 rw[←hx];exact loadM enc o hoff hT hr hj
theorem storeM {α:Type} (enc:α→AV) {x:AV} {l:List α} {T:TypeId} {b j off:Nat} (a:α) {e:TypeId} {q:Nat} (hv:x=enc a) (hoff:off=j) (hn:zd2 (enc a)=true) {n:Bool} (hT:tyS P T= .ok (n,1)) (hl:(enc a).cells=[enc a]) (h1:oneA (enc a)=true) (hr:s.h.get b=some (.row (l.map enc) e q)) (hj:j<l.length)
  (hk:(s.set b (.row ((l.set j a).map enc) e q)).nfK fun s=>K AV.undef s):zdZ (zcD P s T (.ptr b off) x) K:=by
 subst hv;exact store1 enc hoff hn hT hl h1 hr hj hk
theorem zjv {α:Type} {enc:α→AV} {l:List α} {b n:Nat} {e:TypeId} {q:Nat} (hr:s.h.get b=some (.row (l.map enc) e q)) (hn:n=l.length):zeQ s b 0 n= .ok (l.map enc):=by
 subst hn;unfold zeQ Ex.rowAt;rw[hr];show takeN (l.map enc) 0 l.length=_;unfold takeN;rw[List.drop_zero,zf1 (by simp)];rw[List.take_of_length_le (by simp)]
end
def rx (v:Pt) (r:Ref):Rc:=if wi r.r 0 (v.rs.length-1) then Ck.rc v r.r else Rc.o
theorem zeP {α:Type} (enc:α→AV) (o:α) (l:List α):l.map enc=(List.range l.length).flatMap fun i=>[enc (at_ o l i)]:=by
 induction l with
 |nil=>rfl
 |cons a l ih=>
  rw[List.map_cons,List.length_cons,List.range_succ_eq_map,List.flatMap_cons,List.flatMap_map,ih];rfl
end Ck
namespace Go.Proofs.YtgcjejajljhnaaaGreatDoor
open Go.Ex Ck
set_option maxRecDepth 100000
set_option maxHeartbeats 4000000
theorem Index_int (l:List Int) (x:Int) (hl:l.length≤100000):PureC Tryz.prog 170 [LS 1 aI 0 l,ib x] (ib (ixL (fun y=>decide (x=y)) l 0)):=by
 obtain⟨W,hW⟩:∃W,ixL (fun y=>decide (x=y)) l 0=W:=⟨_,rfl⟩
 rw[hW];have hW:ixL (fun y=>decide (x=y)) (l.drop 0) 0=W:=hW;refine PureC.of kmix rfl ?_
 conv=>whnf
 refine WLoop.inv kmix (D:=Nat) (fun d=>l.length-d) (fun d=>d≤l.length∧ixL (fun y=>decide (x=y)) (l.drop d) d=W) (fun d=>slots [(0,LS 1 aI 0 l),(1,ib x),(7,ib l.length),(8,ib d)] 19) (fun d=>zaj []) 0 ⟨Nat.zero_le _,hW⟩ ?_ ?_
 ·(refine Weak.of [] [] rfl rfl ?_ ?_<;>(repeat' first|exact zT|refine zA ?_ ?_)<;>(conv=>whnf)<;>(repeat'(exact rfl))<;>((intro _ _;rfl)))
 ·clear hW;rintro d ⟨hd,hW⟩
  conv=>whnf
  refine KIf.dec (fun h=> ?_) (fun h=> ?_)
  ·have hlt:d<l.length:=by omega
   rw[drop_at 0 l d hlt] at hW;unfold ixL at hW;by_cases hx:x=at_ 0 l d
   ·rw[if_pos (by simp[hx])] at hW
    (conv=>whnf);repeat(first|refine KIf.t (decide_eq_true hx) ?_|refine Need.mk ?_ ?_;omega);conv=>whnf
    refine .z [] ?_;rw[←hW];exact zaa rfl
   ·rw[if_neg (by simp[hx])] at hW
    (conv=>whnf);repeat(first|refine KIf.f (decide_eq_false hx) ?_|refine Need.mk ?_ ?_;(first|omega|(constructor<;>omega)));conv=>whnf
    refine⟨d+1,⟨by omega,hW⟩,by dsimp only;omega,?_⟩
    (refine Weak.of [] [] rfl rfl ?_ ?_<;>(repeat' first|exact zT|refine zA ?_ ?_)<;>(conv=>whnf)<;>(repeat'(exact rfl))<;>((intro _ _;rfl)))
  ·have hde:d=l.length:=by omega
   rw[hde,List.drop_length] at hW
   conv=>whnf
   refine .z [] ?_;rw[←hW];exact zaa rfl
theorem Contains_int (l:List Int) (x:Int) (hl:l.length≤100000):PureC Tryz.prog 147 [LS 1 aI 0 l,ib x] (bb (l.contains x)):=by
 have hc:l.contains x=decide (0≤ixL (fun y=>decide (x=y)) l 0):=by
  rw[zds,List.contains_eq_any_beq];rfl
 rw[hc];refine PureC.of kmix rfl ?_
 (conv=>whnf);repeat((refine KCall.pure (Index_int l x hl) ?_;conv=>whnf))
 refine .z [] ?_;exact zaa rfl
end Go.Proofs.YtgcjejajljhnaaaGreatDoor
namespace Go.Proofs
open Go.Shelf
def Tryz.lays137_ren :Go.Shelf.Ren:=⟨fun|137=>220|217=>211|266=>225|n=>n,fun|9=>9|5=>5|3=>3|n=>n,fun|n=>n⟩
theorem Tryz.lays137 :Go.Proofs.Lays.n137 Tryz.prog Tryz.lays137_ren:={
 mixed:=by kernel_rfl
 f137:=Tryz.func220.trans (congrArg some (by kernel_rfl))
 f217:=Tryz.func211.trans (congrArg some (by kernel_rfl))
 f266:=Tryz.func225.trans (congrArg some (by kernel_rfl))
 t3:=Tryz.underlying3
 a3:=Tryz.isAgg3
 z3:=Tryz.sizeOf3
 v3:=Tryz.zeroValue3
 t5:=Tryz.underlying5
 a5:=Tryz.isAgg5
 z5:=Tryz.sizeOf5
 v5:=Tryz.zeroValue5
 t9:=Tryz.underlying9
 a9:=Tryz.isAgg9
 z9:=Tryz.sizeOf9
 v9:=Tryz.zeroValue9}
open Go.RowKit in
theorem Tryz.strings_IndexByte (s:ByteArray) (c:Int) (w:World):
  Calls Tryz.prog 220 #[.string s, .int .u8 c] w fun e w'=>e= .returned (.int .i64 (Lib.indexByte s.data.toList c.toNat.toUInt8))∧w'=w:=Any.strings_IndexByte Tryz.lays137 s c w
end Go.Proofs
namespace Ck
open Go Go.Ex
def aU (c:UInt8):List AV:=[.sc (.int .u8 c.toNat)]
theorem refused_iff (c:UInt8):decide (Lib.indexByte [34,42,47,58,60,62,63,92,124] c<0)= !([34,42,47,58,60,62,63,92,124].contains c):=by
 have key:∀x:Fin 256,decide (Lib.indexByte [34,42,47,58,60,62,63,92,124] (UInt8.ofNat x.1)<0)= !([34,42,47,58,60,62,63,92,124].contains (UInt8.ofNat x.1)):=by decide+kernel
 have:=key ⟨c.toNat,c.toNat_lt⟩
 rwa [UInt8.ofNat_toNat] at this
theorem last_suffix {s:List UInt8} {b:UInt8} (h:s≠[]):(List.take (s.length-((s.length:Int)-(([b]:List UInt8).length:Int)).toNat) (List.drop ((s.length:Int)-(([b]:List UInt8).length:Int)).toNat s)=[b])↔s.getLast? =some b:=by
 have hp:0<s.length:=List.length_pos_iff.2 h
 have e:((s.length:Int)-(([b]:List UInt8).length:Int)).toNat=s.length-1:=by show((s.length:Int)-1).toNat=_;omega
 rw[e,List.getLast?_eq_getElem?,List.getElem?_eq_getElem (by omega),List.drop_eq_getElem_cons (by omega),List.drop_eq_nil_of_le (by omega),show s.length-(s.length-1)=1 by omega];simp
theorem legal_by (s:List UInt8):legal s=(!decide (s=[])&&(decide (s.length≤32)&&(s.all zaI&&(!decide (s=[46,46])&&(!decide (s.getLast? =some 32)&& !decide (s.getLast? =some 46)))))):=by
 unfold legal
 have e1:∀a b:List UInt8,(a !=b)= !decide (a=b):=fun a b=>by
  by_cases h:a=b
  ·simp[h]
  ·simp[h]
 have e2:∀a b:Option UInt8,(a !=b)= !decide (a=b):=fun a b=>by
  by_cases h:a=b
  ·simp[h]
  ·simp[h]
 rw[e1,e1,e2,e2];simp only[Bool.and_assoc]
theorem fnU_Wz {h:T AO} {z:List Nat} {g:Nat} {cs:List AV} {b:Nat} {e:TypeId} {q:Nat} (hr:h.get b=some (.row cs e q)) (hz:b∈z) (hc:Wzl h z cs cs):Wz h z (.fn (.func g) [] [.cp cs 0]) (.fn (.func g) [] [.ptr b 0]):=by
 unfold Wz;refine⟨rfl,trivial,⟨?_,trivial⟩⟩;unfold Wz;exact⟨rfl,hz,cs,e,q,hr,Nat.le_refl _,by rw[List.take_length];exact hc⟩
end Ck
namespace Go.Proofs.YtgcjejajljhnaaaGreatDoor
open Go.Ex Ck
set_option maxRecDepth 100000
set_option maxHeartbeats 8000000
theorem IndexByte_k (l:List UInt8) (c:UInt8):PureC Tryz.prog 220 [tb l, .sc (.int .u8 c.toNat)] (ib (Lib.indexByte l c)):=fun _=>CallOk.of_below (args:=[.string ⟨⟨l⟩⟩, .int .u8 c.toNat]) fun w _=>(Tryz.strings_IndexByte ⟨⟨l⟩⟩ c.toNat w).mono fun e w' ⟨h1,h2⟩=>⟨by rw[h1,Int.toNat_natCast,Nat.toUInt8,UInt8.ofNat_toNat],by subst h2;exact RowKit.Below.refl _ _⟩
theorem isLegalByte_k (c:UInt8):PureC Tryz.prog 200 [.sc (.int .u8 c.toNat)] (bb (zaI c)):=by
 have hI:=IndexByte_k [34,42,47,58,60,62,63,92,124] c;have hr:=refused_iff c;refine PureC.of kmix rfl ?_;by_cases h1:c.toNat<32
 ·have hf:zaI c=false:=by unfold zaI;rw[decide_eq_false (by omega)];rfl
  rw[hf]
  (conv=>whnf);repeat(first|refine KIf.f rfl ?_|refine KIf.f (decide_eq_false (by omega)) ?_);conv=>whnf
  refine .z [] ?_;exact zaa rfl
 by_cases h2:126<c.toNat
 ·have hf:zaI c=false:=by unfold zaI;rw[decide_eq_false (show ¬c.toNat≤126 by omega),Bool.and_false];rfl
  rw[hf]
  (conv=>whnf);repeat((first|(refine KIf.t (decide_eq_true (by omega)) ?_;conv=>whnf)|(refine KIf.f (decide_eq_false (by omega)) ?_;conv=>whnf)))
  refine .z [] ?_;exact zaa rfl
 have hl:zaI c=decide (Lib.indexByte [34,42,47,58,60,62,63,92,124] c<0):=by
  unfold zaI;rw[hr,decide_eq_true (show 32≤c.toNat by omega),decide_eq_true (show c.toNat≤126 by omega)];rfl
 rw[hl]
 (conv=>whnf);repeat(first|refine KCall.pure (hI) ?_|refine KIf.t (decide_eq_true (by omega)) ?_);conv=>whnf
 refine .z [] ?_;exact zaa rfl
theorem notLegal_k (c:UInt8):PureC Tryz.prog 219 [.sc (.int .u8 c.toNat), .cp [.sc (.func (.func 200) #[] #[])] 0] (bb (!zaI c)):=by
 refine PureC.of kmix rfl ?_
 (conv=>whnf);repeat((refine KCall.pure (isLegalByte_k c) ?_;conv=>whnf))
 refine .z [] ?_;exact zaa rfl
theorem HasSuffix_k (s:List UInt8) (b:UInt8) (hs:s.length≤100000):PureC Tryz.prog 221 [tb s,tb [b]] (bb (decide (s.getLast? =some b))):=by
 refine PureC.of kmix rfl ?_
 by_cases h:s=[]
 ·subst h
  (conv=>whnf);repeat((refine KIf.f rfl ?_;conv=>whnf))
  refine .z [] ?_;exact zaa rfl
 have hp:0<s.length:=List.length_pos_iff.2 h
 have h1:(([b]:List UInt8).length:Int)≤s.length:=by show(1:Int)≤s.length;omega
 have h2:0≤(s.length:Int)-(([b]:List UInt8).length:Int)∧(s.length:Int)-(([b]:List UInt8).length:Int)≤s.length:=by show 0≤(s.length:Int)-1∧(s.length:Int)-1≤s.length;omega
 (conv=>whnf);repeat(first|refine KIf.dt ?_ ?_;assumption|refine Need.mk ?_ ?_;(first|trivial|(constructor<;>omega)));conv=>whnf
 rw[show decide (s.getLast? =some b)=decide (List.take (s.length-((s.length:Int)-(([b]:List UInt8).length:Int)).toNat) (List.drop ((s.length:Int)-(([b]:List UInt8).length:Int)).toNat s)=[b]) from decide_eq_decide.2 (last_suffix h).symm];refine .z [] ?_;exact zaa rfl
theorem zfM (s:List UInt8) (b:UInt8) (hs:s.length≤100000):PureC Tryz.prog 201 [tb s,tb [b]] (bb (decide (s.getLast? =some b))):=by
 refine PureC.of kmix rfl ?_
 (conv=>whnf);repeat((refine KCall.pure (HasSuffix_k s b hs) ?_;conv=>whnf))
 refine .z [] ?_;exact zaa rfl
theorem IndexU_k (l:List UInt8) (hl:l.length≤100000):PureC Tryz.prog 229 [LS 1 aU 0 l, .fn (.func 219) [] [.cp [.sc (.func (.func 200) #[] #[])] 0]] (ib (ixL (fun c=> !zaI c) l 0)):=by
 obtain⟨W,hW⟩:∃W,ixL (fun c=> !zaI c) l 0=W:=⟨_,rfl⟩
 rw[hW];have hW:ixL (fun c=> !zaI c) (l.drop 0) 0=W:=hW;refine PureC.of kmix rfl ?_
 conv=>whnf
 refine WLoop.inv kmix (D:=Nat) (fun d=>l.length-d) (fun d=>d≤l.length∧ixL (fun c=> !zaI c) (l.drop d) d=W) (fun d=>slots [(0,LS 1 aU 0 l),(1, .fn (.func 219) [] [.cp [.sc (.func (.func 200) #[] #[])] 0]),(7,ib l.length),(8,ib d)] 19) (fun d=>zaj []) 0 ⟨Nat.zero_le _,hW⟩ ?_ ?_
 ·(refine Weak.of [] [] rfl rfl ?_ ?_<;>(repeat' first|exact zT|refine zA ?_ ?_)<;>(conv=>whnf)<;>(repeat'(exact rfl))<;>((intro _ _;rfl)))
 ·clear hW;rintro d ⟨hd,hW⟩;by_cases hlt:d<l.length
  ·have hp:=notLegal_k (at_ 0 l d);rw[drop_at 0 l d hlt] at hW;unfold ixL at hW;cases hx:zaI (at_ 0 l d)
   ·rw[if_pos (by rw[hx];rfl)] at hW;rw[hx] at hp
    (conv=>whnf);repeat(first|refine KIf.t rfl ?_|refine Need.mk ?_ ?_;omega|refine KIf.t (decide_eq_true (by omega)) ?_|refine KCall.pure (hp) ?_);conv=>whnf
    refine .z [] ?_;rw[←hW];exact zaa rfl
   ·rw[if_neg (by rw[hx];decide)] at hW;rw[hx] at hp
    (conv=>whnf);repeat(first|refine KIf.f rfl ?_|refine Need.mk ?_ ?_;(first|omega|(constructor<;>omega))|refine KIf.t (decide_eq_true (by omega)) ?_|refine KCall.pure (hp) ?_);conv=>whnf
    refine⟨d+1,⟨by omega,hW⟩,by dsimp only;omega,?_⟩
    (refine Weak.of [] [] rfl rfl ?_ ?_<;>(repeat' first|exact zT|refine zA ?_ ?_)<;>(conv=>whnf)<;>(repeat'(exact rfl))<;>((intro _ _;rfl)))
  ·have hde:d=l.length:=by omega
   rw[hde,List.drop_length] at hW
   (conv=>whnf);repeat(((refine KIf.f (decide_eq_false (by omega)) ?_;conv=>whnf)))
   refine .z [] ?_;rw[←hW];exact zaa rfl
theorem ContainsU_k (l:List UInt8) (hl:l.length≤100000):PureC Tryz.prog 218 [LS 1 aU 0 l, .fn (.func 219) [] [.cp [.sc (.func (.func 200) #[] #[])] 0]] (bb (l.any fun c=> !zaI c)):=by
 rw[←zds (fun c=> !zaI c) l 0];refine PureC.of kmix rfl ?_
 (conv=>whnf);repeat((refine KCall.pure (IndexU_k l hl) ?_;conv=>whnf))
 refine .z [] ?_;exact zaa rfl
theorem allBytes_k (s:List UInt8) (hs:s.length≤100000):PureC Tryz.prog 199 [tb s, .sc (.func (.func 200) #[] #[])] (bb (s.all zaI)):=by
 have hC:=ContainsU_k s hs
 have hr:s.all zaI= !(s.any fun c=> !zaI c):=by rw[List.all_eq_not_any_not]
 rw[hr];refine PureC.of kmix rfl ?_
 (conv=>whnf);repeat(first|refine Need.mk ?_ ?_;omega|refine KCall.lend ([0,1]) (hC) rfl ?_ ?_;exact⟨Wz.own (b:=1) rfl (by simp) rfl (fun _ _=>rfl) (zeP zbk 0 s) (fun _ _=>rfl),fnU_Wz rfl (by simp) ⟨zaa rfl,trivial⟩,trivial⟩);conv=>whnf
 refine .z [] ?_;exact zaa rfl
theorem isLegal_k (s:List UInt8) (hs:s.length≤100000):PureC Tryz.prog 168 [tb s] (bb (legal s)):=by
 have hA:=allBytes_k s hs;have h1:=zfM s 32 hs;have h2:=zfM s 46 hs;rw[legal_by]
 obtain⟨b,hb⟩:∃b,s.all zaI=b:=⟨_,rfl⟩
 obtain⟨c,hc⟩:∃b,decide (s.getLast? =some 32)=b:=⟨_,rfl⟩
 obtain⟨d,hd⟩:∃b,decide (s.getLast? =some 46)=b:=⟨_,rfl⟩
 rw[hb] at hA⊢;rw[hc] at h1⊢;rw[hd] at h2⊢;refine PureC.of kmix rfl ?_
 by_cases q1:s=[]
 ·rw[decide_eq_true q1]
  (conv=>whnf);repeat(first|refine KIf.f rfl ?_|refine KIf.f (congrArg Bool.not (decide_eq_true q1)) ?_);conv=>whnf
  refine .z [] ?_;exact zaa rfl
 rw[decide_eq_false q1];by_cases q2:s.length≤32
 ·rw[decide_eq_true q2];cases b
  ·(conv=>whnf);repeat(first|refine KIf.f rfl ?_|refine KIf.t (congrArg Bool.not (decide_eq_false q1)) ?_|refine KCall.pure (hA) ?_|refine KIf.t (decide_eq_true (by omega)) ?_);conv=>whnf
   refine .z [] ?_;exact zaa rfl
  by_cases q3:s=[46,46]
  ·rw[decide_eq_true q3]
   (conv=>whnf);repeat(first|refine KIf.t rfl ?_|refine KIf.f rfl ?_|refine KIf.t (congrArg Bool.not (decide_eq_false q1)) ?_|refine KCall.pure (hA) ?_|refine KIf.f (congrArg Bool.not (decide_eq_true q3)) ?_|refine KIf.t (decide_eq_true (by omega)) ?_);conv=>whnf
   refine .z [] ?_;exact zaa rfl
  rw[decide_eq_false q3];cases c
  ·(conv=>whnf);repeat(first|refine KIf.t rfl ?_|refine KIf.t (congrArg Bool.not (decide_eq_false q1)) ?_|refine KCall.pure (hA) ?_|refine KIf.t (congrArg Bool.not (decide_eq_false q3)) ?_|refine KCall.pure (h1) ?_|refine KCall.pure (h2) ?_|refine KIf.t (decide_eq_true (by omega)) ?_);conv=>whnf
   refine .z [] ?_;exact zaa rfl
  ·(conv=>whnf);repeat(first|refine KIf.t rfl ?_|refine KIf.f rfl ?_|refine KIf.t (congrArg Bool.not (decide_eq_false q1)) ?_|refine KCall.pure (hA) ?_|refine KIf.t (congrArg Bool.not (decide_eq_false q3)) ?_|refine KCall.pure (h1) ?_|refine KIf.t (decide_eq_true (by omega)) ?_);conv=>whnf
   refine .z [] ?_;exact zaa rfl
 ·rw[decide_eq_false q2]
  (conv=>whnf);repeat(first|refine KIf.f rfl ?_|refine KIf.t (congrArg Bool.not (decide_eq_false q1)) ?_|refine KIf.f (decide_eq_false (by omega)) ?_);conv=>whnf
  refine .z [] ?_;exact zaa rfl
theorem zjg (b:Bool) (e:Int):PureC Tryz.prog 167 [bb b,ib e] (ib (if b then 0 else e)):=by
 refine PureC.of kmix rfl ?_
 conv=>whnf
 cases b
 all_goals
  (conv=>whnf);repeat(first|refine KIf.t rfl ?_|refine KIf.f rfl ?_);conv=>whnf
  refine .z [] ?_;(conv=>whnf);exact⟨rfl,rfl⟩
theorem nfirst_k (l:List Int) (hl:l.length≤1000000):PureC Tryz.prog 166 [LS 1 aI 0 l] (ib (Ck.first l)):=by
 refine PureC.of kmix rfl ?_
 conv=>whnf
 refine WLoop.inv kmix (D:=Nat) (fun d=>l.length-d) (fun d=>d≤l.length∧Ck.first (l.drop d)=Ck.first l) (fun d=>slots [(0,LS 1 aI 0 l),(5,LS 1 aI 0 l),(6,ib l.length),(7,ib d)] 15) (fun d=>zaj []) 0 ⟨Nat.zero_le _,rfl⟩ ?_ ?_
 ·(refine Weak.of [] [] rfl rfl ?_ ?_<;>(repeat' first|exact zT|refine zA ?_ ?_)<;>(conv=>whnf)<;>(repeat'(exact rfl))<;>((intro _ _;rfl)))
 ·rintro d ⟨hd,hz⟩;by_cases hlt:d<l.length
  ·have hs:Ck.first (at_ 0 l d::l.drop (d+1))=if at_ 0 l d=0 then Ck.first (l.drop (d+1)) else at_ 0 l d:=rfl
   rw[drop_at 0 l d hlt,hs] at hz;by_cases h0:at_ 0 l d=0
   ·rw[if_pos h0] at hz
    (conv=>whnf);repeat(first|refine Need.mk ?_ ?_;(first|omega|(constructor<;>omega))|refine KIf.f (congrArg Bool.not (decide_eq_true h0)) ?_|refine KIf.t (decide_eq_true (by omega)) ?_);conv=>whnf
    refine⟨d+1,⟨by omega,hz⟩,by dsimp only;omega,?_⟩
    (refine Weak.of [] [] rfl rfl ?_ ?_<;>(repeat' first|exact zT|refine zA ?_ ?_)<;>(conv=>whnf)<;>(repeat'(exact rfl))<;>((intro _ _;rfl)))
   ·rw[if_neg h0] at hz;rw[←hz]
    (conv=>whnf);repeat(first|refine Need.mk ?_ ?_;omega|refine KIf.t (congrArg Bool.not (decide_eq_false h0)) ?_|refine KIf.t (decide_eq_true (by omega)) ?_);conv=>whnf
    refine .z [] ?_;exact zaa rfl
  ·rw[←hz,show d=l.length by omega,List.drop_length]
   (conv=>whnf);repeat(((refine KIf.f (decide_eq_false (by omega)) ?_;conv=>whnf)))
   refine .z [] ?_;exact zaa rfl
theorem zc4 (s:List UInt8) (hs:s.length≤100000):PureC Tryz.prog 134 [tb s] (ib (zaw s)):=by
 have hL:=isLegal_k s hs;have hU1:=zjg (decide (s.length≤32)) 8;have hU2:=zjg (legal s) 4;have hf:=nfirst_k [if decide (s.length≤32)=true then 0 else 8,if legal s=true then 0 else 4] (by decide:(2:Nat)≤1000000)
 have he:Ck.first [if decide (s.length≤32)=true then 0 else 8,if legal s=true then 0 else 4]=zaw s:=by
  unfold zaw;by_cases h:32<s.length
  ·rw[if_pos h,decide_eq_false (by omega)];rfl
  ·rw[if_neg h,decide_eq_true (by omega)];cases legal s<;>rfl
 rw[he] at hf;have hd:decide ((s.length:Int)≤32)=decide (s.length≤32):=decide_eq_decide.2 (by omega);rw[←hd] at hU1 hf;refine PureC.of kmix rfl ?_
 (conv=>whnf);repeat(first|refine KCall.pure (hL) ?_|refine KCall.pure (hU1) ?_|refine KCall.pure (hU2) ?_|refine KCall.frz [0] (hf) ⟨Wz.ownS rfl (by simp) rfl (Nat.le_refl 2) (fun _ _=>rfl) rfl (fun _ _=>rfl),trivial⟩ ?_);conv=>whnf
 refine .z [] ?_;exact zaa rfl
end Go.Proofs.YtgcjejajljhnaaaGreatDoor
namespace Go.Proofs.YtgcjejajljhnaaaGreatDoor
open Go.Ex (ai ab ay)
theorem awmix :Tryz.prog.follows .mixedOrders=true:=by decide+kernel
theorem awidx :Ex.ExtOk Tryz.prog (Ex.extIdx 220):=Ex.extIdx_ok fun s c w=>(Tryz.strings_IndexByte s c w).mono fun e w' ⟨he,hw⟩=>⟨he,hw⟩
abbrev awx0 :Ex.Ext:=Ex.extIdx 220
def awm0 :Ex.Memo:=
 {f:=134,args:=[(ay [97])],v:=(ai 0)}
theorem zdA :awm0.Ok Tryz.prog:=Ex.Memo.ok_of_check awmix (ext:=Ex.extAnd awx0 (Ex.extAnd (Ex.extM []) (Ex.extOf []))) (Ex.extAnd_ok awidx (Ex.extAnd_ok (Ex.extM_ok zN) (Ex.extOf_ok zN))) (k:=2000) (by decide+kernel)
def awm1 :Ex.Memo:=
 {f:=134,args:=[(ay [98])],v:=(ai 0)}
theorem zem :awm1.Ok Tryz.prog:=Ex.Memo.ok_of_check awmix (ext:=Ex.extAnd awx0 (Ex.extAnd (Ex.extM [awm0]) (Ex.extOf []))) (Ex.extAnd_ok awidx (Ex.extAnd_ok (Ex.extM_ok (List.forall_mem_cons.2 ⟨zdA,(zN)⟩)) (Ex.extOf_ok zN))) (k:=2000) (by decide+kernel)
def awm2 :Ex.Memo:=
 {f:=202,args:=[(ay [98])],v:=(ay [66])}
theorem zfE :awm2.Ok Tryz.prog:=Ex.Memo.ok_of_check awmix (ext:=Ex.extAnd awx0 (Ex.extAnd (Ex.extM [awm0,awm1]) (Ex.extOf []))) (Ex.extAnd_ok awidx (Ex.extAnd_ok (Ex.extM_ok (List.forall_mem_cons.2 ⟨zdA,(List.forall_mem_cons.2 ⟨zem,(zN)⟩)⟩)) (Ex.extOf_ok zN))) (k:=2000) (by decide+kernel)
def awm3 :Ex.Memo:=
 {f:=202,args:=[(ay [97])],v:=(ay [65])}
theorem zhd :awm3.Ok Tryz.prog:=Ex.Memo.ok_of_check awmix (ext:=Ex.extAnd awx0 (Ex.extAnd (Ex.extM [awm0,awm1,awm2]) (Ex.extOf []))) (Ex.extAnd_ok awidx (Ex.extAnd_ok (Ex.extM_ok (List.forall_mem_cons.2 ⟨zdA,(List.forall_mem_cons.2 ⟨zem,(List.forall_mem_cons.2 ⟨zfE,(zN)⟩)⟩)⟩)) (Ex.extOf_ok zN))) (k:=2000) (by decide+kernel)
def awc0 :Ex.Chunk:=
 {f:=20,n:=52,args:=[(.agg [(ai 64),(.sl 1 0 1 1),(.so 39 0 18 0),(.sl 2 0 1 1),(ay [15,12,0,0,0,0,0,0])])],pre:=[(1,(.row [(ai 0),(ai 4)] 78 0)),(2,(.row [(ai 1)] 3 0)),(39,(.row [(ab false),(ai 1),(ai 0),(ai 0),(ai 0),(ai 0),(ai 0),(.sc (.slice none 0 0)),(.sc (.slice none 0 0)),(.sc (.slice none 0 0)),(ab false),(ai 1),(ai 0),(ai 0),(ai 0),(ai 0),(ai 0),(.sc (.slice none 0 0)),(.sc (.slice none 0 0)),(.sc (.slice none 0 0)),(ab false),(ai 1),(ai 0),(ai 0),(ai 0),(ai 0),(ai 0),(.sc (.slice none 0 0)),(.sc (.slice none 0 0)),(.sc (.slice none 0 0)),(ab false),(ai 1),(ai 0),(ai 0),(ai 0),(ai 0),(ai 0),(.sc (.slice none 0 0)),(.sc (.slice none 0 0)),(.sc (.slice none 0 0)),(ab false),(ai 1),(ai 0),(ai 0),(ai 0),(ai 0),(ai 0),(.sc (.slice none 0 0)),(.sc (.slice none 0 0)),(.sc (.slice none 0 0)),(ab true),(ai 1),(ai 0),(ai 0),(ai 0),(ai 0),(ai 1),(.sc (.slice none 0 0)),(.sc (.slice none 0 0)),(.sl 41 0 2 2),(ab false),(ai 1),(ai 0),(ai 0),(ai 0),(ai 0),(ai 0),(.sc (.slice none 0 0)),(.sc (.slice none 0 0)),(.sc (.slice none 0 0)),(ab false),(ai 1),(ai 0),(ai 0),(ai 0),(ai 0),(ai 0),(.sc (.slice none 0 0)),(.sc (.slice none 0 0)),(.sc (.slice none 0 0)),(ab false),(ai 1),(ai 0),(ai 0),(ai 0),(ai 0),(ai 0),(.sc (.slice none 0 0)),(.sc (.slice none 0 0)),(.sc (.slice none 0 0)),(ab false),(ai 1),(ai 0),(ai 0),(ai 0),(ai 0),(ai 0),(.sc (.slice none 0 0)),(.sc (.slice none 0 0)),(.sc (.slice none 0 0)),(ab false),(ai 1),(ai 0),(ai 0),(ai 0),(ai 0),(ai 0),(.sc (.slice none 0 0)),(.sc (.slice none 0 0)),(.sc (.slice none 0 0)),(ab false),(ai 1),(ai 0),(ai 0),(ai 0),(ai 0),(ai 0),(.sc (.slice none 0 0)),(.sc (.slice none 0 0)),(.sc (.slice none 0 0)),(ab false),(ai 1),(ai 0),(ai 0),(ai 0),(ai 0),(ai 0),(.sc (.slice none 0 0)),(.sc (.slice none 0 0)),(.sc (.slice none 0 0)),(ab false),(ai 1),(ai 0),(ai 0),(ai 0),(ai 0),(ai 0),(.sc (.slice none 0 0)),(.sc (.slice none 0 0)),(.sc (.slice none 0 0)),(ab false),(ai 1),(ai 0),(ai 0),(ai 0),(ai 0),(ai 0),(.sc (.slice none 0 0)),(.sc (.slice none 0 0)),(.sc (.slice none 0 0)),(ab false),(ai 1),(ai 0),(ai 0),(ai 0),(ai 0),(ai 0),(.sc (.slice none 0 0)),(.sc (.slice none 0 0)),(.sc (.slice none 0 0)),(ab true),(ai 1),(ai 1),(ai 0),(ai 0),(ai 1),(ai 1),(.sl 42 0 1 1),(.sl 44 0 1 1),(.sc (.slice none 0 0)),(ab true),(ai 1),(ai 1),(ai 0),(ai 0),(ai 1),(ai 1),(.sl 45 0 1 1),(.sl 47 0 1 1),(.sc (.slice none 0 0))] 66 10)),(41,(.row [(ay [97]),(ai 16),(ai 1),(ai 300),(ay [98]),(ai 17),(ai 1),(ai 200)] 73 0)),(42,(.row [(ai 5),(ai 1),(ay [97])] 71 0)),(43,(.row [(ai 10),(ai 2)] 78 0)),(44,(.row [(.sl 43 0 1 1),(ai 300)] 80 0)),(45,(.row [(ai 5),(ai 1),(ay [98])] 71 0)),(46,(.row [(ai 11),(ai 1)] 78 0)),(47,(.row [(.sl 46 0 1 1),(ai 200)] 80 0))],v:=(.tup [(.so 459 0 2 0),(ai 0)]),n':=512,post:=[(1,(.row [(ai 0),(ai 4)] 78 0)),(2,(.row [(ai 1)] 3 0)),(39,(.row [(ab false),(ai 1),(ai 0),(ai 0),(ai 0),(ai 0),(ai 0),(.sc (.slice none 0 0)),(.sc (.slice none 0 0)),(.sc (.slice none 0 0)),(ab false),(ai 1),(ai 0),(ai 0),(ai 0),(ai 0),(ai 0),(.sc (.slice none 0 0)),(.sc (.slice none 0 0)),(.sc (.slice none 0 0)),(ab false),(ai 1),(ai 0),(ai 0),(ai 0),(ai 0),(ai 0),(.sc (.slice none 0 0)),(.sc (.slice none 0 0)),(.sc (.slice none 0 0)),(ab false),(ai 1),(ai 0),(ai 0),(ai 0),(ai 0),(ai 0),(.sc (.slice none 0 0)),(.sc (.slice none 0 0)),(.sc (.slice none 0 0)),(ab false),(ai 1),(ai 0),(ai 0),(ai 0),(ai 0),(ai 0),(.sc (.slice none 0 0)),(.sc (.slice none 0 0)),(.sc (.slice none 0 0)),(ab true),(ai 1),(ai 0),(ai 0),(ai 0),(ai 0),(ai 1),(.sc (.slice none 0 0)),(.sc (.slice none 0 0)),(.sl 41 0 2 2),(ab false),(ai 1),(ai 0),(ai 0),(ai 0),(ai 0),(ai 0),(.sc (.slice none 0 0)),(.sc (.slice none 0 0)),(.sc (.slice none 0 0)),(ab false),(ai 1),(ai 0),(ai 0),(ai 0),(ai 0),(ai 0),(.sc (.slice none 0 0)),(.sc (.slice none 0 0)),(.sc (.slice none 0 0)),(ab false),(ai 1),(ai 0),(ai 0),(ai 0),(ai 0),(ai 0),(.sc (.slice none 0 0)),(.sc (.slice none 0 0)),(.sc (.slice none 0 0)),(ab false),(ai 1),(ai 0),(ai 0),(ai 0),(ai 0),(ai 0),(.sc (.slice none 0 0)),(.sc (.slice none 0 0)),(.sc (.slice none 0 0)),(ab false),(ai 1),(ai 0),(ai 0),(ai 0),(ai 0),(ai 0),(.sc (.slice none 0 0)),(.sc (.slice none 0 0)),(.sc (.slice none 0 0)),(ab false),(ai 1),(ai 0),(ai 0),(ai 0),(ai 0),(ai 0),(.sc (.slice none 0 0)),(.sc (.slice none 0 0)),(.sc (.slice none 0 0)),(ab false),(ai 1),(ai 0),(ai 0),(ai 0),(ai 0),(ai 0),(.sc (.slice none 0 0)),(.sc (.slice none 0 0)),(.sc (.slice none 0 0)),(ab false),(ai 1),(ai 0),(ai 0),(ai 0),(ai 0),(ai 0),(.sc (.slice none 0 0)),(.sc (.slice none 0 0)),(.sc (.slice none 0 0)),(ab false),(ai 1),(ai 0),(ai 0),(ai 0),(ai 0),(ai 0),(.sc (.slice none 0 0)),(.sc (.slice none 0 0)),(.sc (.slice none 0 0)),(ab false),(ai 1),(ai 0),(ai 0),(ai 0),(ai 0),(ai 0),(.sc (.slice none 0 0)),(.sc (.slice none 0 0)),(.sc (.slice none 0 0)),(ab true),(ai 1),(ai 1),(ai 0),(ai 0),(ai 1),(ai 1),(.sl 42 0 1 1),(.sl 44 0 1 1),(.sc (.slice none 0 0)),(ab true),(ai 1),(ai 1),(ai 0),(ai 0),(ai 1),(ai 1),(.sl 45 0 1 1),(.sl 47 0 1 1),(.sc (.slice none 0 0))] 66 10)),(41,(.row [(ay [97]),(ai 16),(ai 1),(ai 300),(ay [98]),(ai 17),(ai 1),(ai 200)] 73 0)),(42,(.row [(ai 5),(ai 1),(ay [97])] 71 0)),(43,(.row [(ai 10),(ai 2)] 78 0)),(44,(.row [(.sl 43 0 1 1),(ai 300)] 80 0)),(45,(.row [(ai 5),(ai 1),(ay [98])] 71 0)),(46,(.row [(ai 11),(ai 1)] 78 0)),(47,(.row [(.sl 46 0 1 1),(ai 200)] 80 0)),(459,(.row [(ai 1),(ai 17),(ai 0),(ai 9),(ai 5),(ai 1)] 86 3))]}
theorem ziS :awc0.Ok Tryz.prog:=Ex.Chunk.ok_of_check awmix (ext:=Ex.extAnd awx0 (Ex.extAnd (Ex.extM [awm0,awm1,awm2,awm3]) (Ex.extOf []))) (Ex.extAnd_ok awidx (Ex.extAnd_ok (Ex.extM_ok (List.forall_mem_cons.2 ⟨zdA,(List.forall_mem_cons.2 ⟨zem,(List.forall_mem_cons.2 ⟨zfE,(List.forall_mem_cons.2 ⟨zhd,(zN)⟩)⟩)⟩)⟩)) (Ex.extOf_ok zN))) (k:=2000) (by decide+kernel)
def awc1 :Ex.Chunk:=
 {f:=20,n:=565,args:=[(.agg [(ai 64),(.sl 513 0 1 1),(.so 551 0 18 0),(.sl 514 0 1 1),(ay [15,12,0,0,0,0,0,0])])],pre:=[(513,(.row [(ai 0),(ai 4)] 78 0)),(514,(.row [(ai 1)] 3 0)),(551,(.row [(ab false),(ai 1),(ai 0),(ai 0),(ai 0),(ai 0),(ai 0),(.sc (.slice none 0 0)),(.sc (.slice none 0 0)),(.sc (.slice none 0 0)),(ab false),(ai 1),(ai 0),(ai 0),(ai 0),(ai 0),(ai 0),(.sc (.slice none 0 0)),(.sc (.slice none 0 0)),(.sc (.slice none 0 0)),(ab false),(ai 1),(ai 0),(ai 0),(ai 0),(ai 0),(ai 0),(.sc (.slice none 0 0)),(.sc (.slice none 0 0)),(.sc (.slice none 0 0)),(ab false),(ai 1),(ai 0),(ai 0),(ai 0),(ai 0),(ai 0),(.sc (.slice none 0 0)),(.sc (.slice none 0 0)),(.sc (.slice none 0 0)),(ab false),(ai 1),(ai 0),(ai 0),(ai 0),(ai 0),(ai 0),(.sc (.slice none 0 0)),(.sc (.slice none 0 0)),(.sc (.slice none 0 0)),(ab true),(ai 1),(ai 0),(ai 0),(ai 0),(ai 0),(ai 1),(.sc (.slice none 0 0)),(.sc (.slice none 0 0)),(.sl 553 4 1 1),(ab false),(ai 1),(ai 0),(ai 0),(ai 0),(ai 0),(ai 0),(.sc (.slice none 0 0)),(.sc (.slice none 0 0)),(.sc (.slice none 0 0)),(ab false),(ai 1),(ai 0),(ai 0),(ai 0),(ai 0),(ai 0),(.sc (.slice none 0 0)),(.sc (.slice none 0 0)),(.sc (.slice none 0 0)),(ab false),(ai 1),(ai 0),(ai 0),(ai 0),(ai 0),(ai 0),(.sc (.slice none 0 0)),(.sc (.slice none 0 0)),(.sc (.slice none 0 0)),(ab false),(ai 1),(ai 0),(ai 0),(ai 0),(ai 0),(ai 0),(.sc (.slice none 0 0)),(.sc (.slice none 0 0)),(.sc (.slice none 0 0)),(ab false),(ai 1),(ai 0),(ai 0),(ai 0),(ai 0),(ai 0),(.sc (.slice none 0 0)),(.sc (.slice none 0 0)),(.sc (.slice none 0 0)),(ab false),(ai 1),(ai 0),(ai 0),(ai 0),(ai 0),(ai 0),(.sc (.slice none 0 0)),(.sc (.slice none 0 0)),(.sc (.slice none 0 0)),(ab false),(ai 1),(ai 0),(ai 0),(ai 0),(ai 0),(ai 0),(.sc (.slice none 0 0)),(.sc (.slice none 0 0)),(.sc (.slice none 0 0)),(ab false),(ai 1),(ai 0),(ai 0),(ai 0),(ai 0),(ai 0),(.sc (.slice none 0 0)),(.sc (.slice none 0 0)),(.sc (.slice none 0 0)),(ab false),(ai 1),(ai 0),(ai 0),(ai 0),(ai 0),(ai 0),(.sc (.slice none 0 0)),(.sc (.slice none 0 0)),(.sc (.slice none 0 0)),(ab false),(ai 1),(ai 0),(ai 0),(ai 0),(ai 0),(ai 0),(.sc (.slice none 0 0)),(.sc (.slice none 0 0)),(.sc (.slice none 0 0)),(ab true),(ai 1),(ai 1),(ai 0),(ai 0),(ai 1),(ai 1),(.sl 554 0 1 1),(.sl 556 0 1 1),(.sc (.slice none 0 0)),(ab true),(ai 1),(ai 1),(ai 0),(ai 0),(ai 1),(ai 1),(.sl 557 0 1 1),(.sl 559 0 1 1),(.sc (.slice none 0 0))] 66 10)),(553,(.row [(ay [97]),(ai 16),(ai 1),(ai 300),(ay [98]),(ai 17),(ai 1),(ai 200)] 73 0)),(554,(.row [(ai 5),(ai 1),(ay [97])] 71 0)),(555,(.row [(ai 10),(ai 2)] 78 0)),(556,(.row [(.sl 555 0 1 1),(ai 300)] 80 0)),(557,(.row [(ai 5),(ai 1),(ay [98])] 71 0)),(558,(.row [(ai 11),(ai 1)] 78 0)),(559,(.row [(.sl 558 0 1 1),(ai 200)] 80 0))],v:=(.tup [(.so 951 0 3 0),(ai 0)]),n':=1012,post:=[(513,(.row [(ai 0),(ai 4)] 78 0)),(514,(.row [(ai 1)] 3 0)),(551,(.row [(ab false),(ai 1),(ai 0),(ai 0),(ai 0),(ai 0),(ai 0),(.sc (.slice none 0 0)),(.sc (.slice none 0 0)),(.sc (.slice none 0 0)),(ab false),(ai 1),(ai 0),(ai 0),(ai 0),(ai 0),(ai 0),(.sc (.slice none 0 0)),(.sc (.slice none 0 0)),(.sc (.slice none 0 0)),(ab false),(ai 1),(ai 0),(ai 0),(ai 0),(ai 0),(ai 0),(.sc (.slice none 0 0)),(.sc (.slice none 0 0)),(.sc (.slice none 0 0)),(ab false),(ai 1),(ai 0),(ai 0),(ai 0),(ai 0),(ai 0),(.sc (.slice none 0 0)),(.sc (.slice none 0 0)),(.sc (.slice none 0 0)),(ab false),(ai 1),(ai 0),(ai 0),(ai 0),(ai 0),(ai 0),(.sc (.slice none 0 0)),(.sc (.slice none 0 0)),(.sc (.slice none 0 0)),(ab true),(ai 1),(ai 0),(ai 0),(ai 0),(ai 0),(ai 1),(.sc (.slice none 0 0)),(.sc (.slice none 0 0)),(.sl 553 4 1 1),(ab false),(ai 1),(ai 0),(ai 0),(ai 0),(ai 0),(ai 0),(.sc (.slice none 0 0)),(.sc (.slice none 0 0)),(.sc (.slice none 0 0)),(ab false),(ai 1),(ai 0),(ai 0),(ai 0),(ai 0),(ai 0),(.sc (.slice none 0 0)),(.sc (.slice none 0 0)),(.sc (.slice none 0 0)),(ab false),(ai 1),(ai 0),(ai 0),(ai 0),(ai 0),(ai 0),(.sc (.slice none 0 0)),(.sc (.slice none 0 0)),(.sc (.slice none 0 0)),(ab false),(ai 1),(ai 0),(ai 0),(ai 0),(ai 0),(ai 0),(.sc (.slice none 0 0)),(.sc (.slice none 0 0)),(.sc (.slice none 0 0)),(ab false),(ai 1),(ai 0),(ai 0),(ai 0),(ai 0),(ai 0),(.sc (.slice none 0 0)),(.sc (.slice none 0 0)),(.sc (.slice none 0 0)),(ab false),(ai 1),(ai 0),(ai 0),(ai 0),(ai 0),(ai 0),(.sc (.slice none 0 0)),(.sc (.slice none 0 0)),(.sc (.slice none 0 0)),(ab false),(ai 1),(ai 0),(ai 0),(ai 0),(ai 0),(ai 0),(.sc (.slice none 0 0)),(.sc (.slice none 0 0)),(.sc (.slice none 0 0)),(ab false),(ai 1),(ai 0),(ai 0),(ai 0),(ai 0),(ai 0),(.sc (.slice none 0 0)),(.sc (.slice none 0 0)),(.sc (.slice none 0 0)),(ab false),(ai 1),(ai 0),(ai 0),(ai 0),(ai 0),(ai 0),(.sc (.slice none 0 0)),(.sc (.slice none 0 0)),(.sc (.slice none 0 0)),(ab false),(ai 1),(ai 0),(ai 0),(ai 0),(ai 0),(ai 0),(.sc (.slice none 0 0)),(.sc (.slice none 0 0)),(.sc (.slice none 0 0)),(ab true),(ai 1),(ai 1),(ai 0),(ai 0),(ai 1),(ai 1),(.sl 554 0 1 1),(.sl 556 0 1 1),(.sc (.slice none 0 0)),(ab true),(ai 1),(ai 1),(ai 0),(ai 0),(ai 1),(ai 1),(.sl 557 0 1 1),(.sl 559 0 1 1),(.sc (.slice none 0 0))] 66 10)),(553,(.row [(ay [97]),(ai 16),(ai 1),(ai 300),(ay [98]),(ai 17),(ai 1),(ai 200)] 73 0)),(554,(.row [(ai 5),(ai 1),(ay [97])] 71 0)),(555,(.row [(ai 10),(ai 2)] 78 0)),(556,(.row [(.sl 555 0 1 1),(ai 300)] 80 0)),(557,(.row [(ai 5),(ai 1),(ay [98])] 71 0)),(558,(.row [(ai 11),(ai 1)] 78 0)),(559,(.row [(.sl 558 0 1 1),(ai 200)] 80 0)),(951,(.row [(ai 1),(ai 17),(ai 0),(ai 5),(ai 16),(ai 0),(ai 9),(ai 5),(ai 0)] 86 3))]}
theorem zkC :awc1.Ok Tryz.prog:=Ex.Chunk.ok_of_check awmix (ext:=Ex.extAnd awx0 (Ex.extAnd (Ex.extM [awm0,awm1,awm2,awm3]) (Ex.extOf [awc0]))) (Ex.extAnd_ok awidx (Ex.extAnd_ok (Ex.extM_ok (List.forall_mem_cons.2 ⟨zdA,(List.forall_mem_cons.2 ⟨zem,(List.forall_mem_cons.2 ⟨zfE,(List.forall_mem_cons.2 ⟨zhd,(zN)⟩)⟩)⟩)⟩)) (Ex.extOf_ok (List.forall_mem_cons.2 ⟨ziS,(zN)⟩)))) (k:=2000) (by decide+kernel)
def awc2 :Ex.Chunk:=
 {f:=15,n:=1064,args:=[(.agg [(ai 64),(.sl 1013 0 1 1),(.so 1051 0 18 0),(.sl 1014 0 1 1),(ay [15,12,0,0,0,0,0,0])])],pre:=[(1013,(.row [(ai 0),(ai 4)] 78 0)),(1014,(.row [(ai 1)] 3 0)),(1051,(.row [(ab false),(ai 1),(ai 0),(ai 0),(ai 0),(ai 0),(ai 0),(.sc (.slice none 0 0)),(.sc (.slice none 0 0)),(.sc (.slice none 0 0)),(ab false),(ai 1),(ai 0),(ai 0),(ai 0),(ai 0),(ai 0),(.sc (.slice none 0 0)),(.sc (.slice none 0 0)),(.sc (.slice none 0 0)),(ab false),(ai 1),(ai 0),(ai 0),(ai 0),(ai 0),(ai 0),(.sc (.slice none 0 0)),(.sc (.slice none 0 0)),(.sc (.slice none 0 0)),(ab false),(ai 1),(ai 0),(ai 0),(ai 0),(ai 0),(ai 0),(.sc (.slice none 0 0)),(.sc (.slice none 0 0)),(.sc (.slice none 0 0)),(ab false),(ai 1),(ai 0),(ai 0),(ai 0),(ai 0),(ai 0),(.sc (.slice none 0 0)),(.sc (.slice none 0 0)),(.sc (.slice none 0 0)),(ab true),(ai 1),(ai 0),(ai 0),(ai 0),(ai 0),(ai 1),(.sc (.slice none 0 0)),(.sc (.slice none 0 0)),(.sl 1053 0 2 2),(ab false),(ai 1),(ai 0),(ai 0),(ai 0),(ai 0),(ai 0),(.sc (.slice none 0 0)),(.sc (.slice none 0 0)),(.sc (.slice none 0 0)),(ab false),(ai 1),(ai 0),(ai 0),(ai 0),(ai 0),(ai 0),(.sc (.slice none 0 0)),(.sc (.slice none 0 0)),(.sc (.slice none 0 0)),(ab false),(ai 1),(ai 0),(ai 0),(ai 0),(ai 0),(ai 0),(.sc (.slice none 0 0)),(.sc (.slice none 0 0)),(.sc (.slice none 0 0)),(ab false),(ai 1),(ai 0),(ai 0),(ai 0),(ai 0),(ai 0),(.sc (.slice none 0 0)),(.sc (.slice none 0 0)),(.sc (.slice none 0 0)),(ab false),(ai 1),(ai 0),(ai 0),(ai 0),(ai 0),(ai 0),(.sc (.slice none 0 0)),(.sc (.slice none 0 0)),(.sc (.slice none 0 0)),(ab false),(ai 1),(ai 0),(ai 0),(ai 0),(ai 0),(ai 0),(.sc (.slice none 0 0)),(.sc (.slice none 0 0)),(.sc (.slice none 0 0)),(ab false),(ai 1),(ai 0),(ai 0),(ai 0),(ai 0),(ai 0),(.sc (.slice none 0 0)),(.sc (.slice none 0 0)),(.sc (.slice none 0 0)),(ab false),(ai 1),(ai 0),(ai 0),(ai 0),(ai 0),(ai 0),(.sc (.slice none 0 0)),(.sc (.slice none 0 0)),(.sc (.slice none 0 0)),(ab false),(ai 1),(ai 0),(ai 0),(ai 0),(ai 0),(ai 0),(.sc (.slice none 0 0)),(.sc (.slice none 0 0)),(.sc (.slice none 0 0)),(ab false),(ai 1),(ai 0),(ai 0),(ai 0),(ai 0),(ai 0),(.sc (.slice none 0 0)),(.sc (.slice none 0 0)),(.sc (.slice none 0 0)),(ab true),(ai 1),(ai 1),(ai 0),(ai 0),(ai 1),(ai 1),(.sl 1054 0 1 1),(.sl 1056 0 1 1),(.sc (.slice none 0 0)),(ab true),(ai 1),(ai 1),(ai 0),(ai 0),(ai 1),(ai 1),(.sl 1057 0 1 1),(.sl 1059 0 1 1),(.sc (.slice none 0 0))] 66 10)),(1053,(.row [(ay [97]),(ai 16),(ai 1),(ai 300),(ay [98]),(ai 17),(ai 1),(ai 200)] 73 0)),(1054,(.row [(ai 5),(ai 1),(ay [97])] 71 0)),(1055,(.row [(ai 10),(ai 2)] 78 0)),(1056,(.row [(.sl 1055 0 1 1),(ai 300)] 80 0)),(1057,(.row [(ai 5),(ai 1),(ay [98])] 71 0)),(1058,(.row [(ai 11),(ai 1)] 78 0)),(1059,(.row [(.sl 1058 0 1 1),(ai 200)] 80 0))],v:=(.tup [(.so 1148 0 3 0),(ai 0)]),n':=1150,post:=[(1013,(.row [(ai 0),(ai 4)] 78 0)),(1014,(.row [(ai 1)] 3 0)),(1051,(.row [(ab false),(ai 1),(ai 0),(ai 0),(ai 0),(ai 0),(ai 0),(.sc (.slice none 0 0)),(.sc (.slice none 0 0)),(.sc (.slice none 0 0)),(ab false),(ai 1),(ai 0),(ai 0),(ai 0),(ai 0),(ai 0),(.sc (.slice none 0 0)),(.sc (.slice none 0 0)),(.sc (.slice none 0 0)),(ab false),(ai 1),(ai 0),(ai 0),(ai 0),(ai 0),(ai 0),(.sc (.slice none 0 0)),(.sc (.slice none 0 0)),(.sc (.slice none 0 0)),(ab false),(ai 1),(ai 0),(ai 0),(ai 0),(ai 0),(ai 0),(.sc (.slice none 0 0)),(.sc (.slice none 0 0)),(.sc (.slice none 0 0)),(ab false),(ai 1),(ai 0),(ai 0),(ai 0),(ai 0),(ai 0),(.sc (.slice none 0 0)),(.sc (.slice none 0 0)),(.sc (.slice none 0 0)),(ab true),(ai 1),(ai 0),(ai 0),(ai 0),(ai 0),(ai 1),(.sc (.slice none 0 0)),(.sc (.slice none 0 0)),(.sl 1053 0 2 2),(ab false),(ai 1),(ai 0),(ai 0),(ai 0),(ai 0),(ai 0),(.sc (.slice none 0 0)),(.sc (.slice none 0 0)),(.sc (.slice none 0 0)),(ab false),(ai 1),(ai 0),(ai 0),(ai 0),(ai 0),(ai 0),(.sc (.slice none 0 0)),(.sc (.slice none 0 0)),(.sc (.slice none 0 0)),(ab false),(ai 1),(ai 0),(ai 0),(ai 0),(ai 0),(ai 0),(.sc (.slice none 0 0)),(.sc (.slice none 0 0)),(.sc (.slice none 0 0)),(ab false),(ai 1),(ai 0),(ai 0),(ai 0),(ai 0),(ai 0),(.sc (.slice none 0 0)),(.sc (.slice none 0 0)),(.sc (.slice none 0 0)),(ab false),(ai 1),(ai 0),(ai 0),(ai 0),(ai 0),(ai 0),(.sc (.slice none 0 0)),(.sc (.slice none 0 0)),(.sc (.slice none 0 0)),(ab false),(ai 1),(ai 0),(ai 0),(ai 0),(ai 0),(ai 0),(.sc (.slice none 0 0)),(.sc (.slice none 0 0)),(.sc (.slice none 0 0)),(ab false),(ai 1),(ai 0),(ai 0),(ai 0),(ai 0),(ai 0),(.sc (.slice none 0 0)),(.sc (.slice none 0 0)),(.sc (.slice none 0 0)),(ab false),(ai 1),(ai 0),(ai 0),(ai 0),(ai 0),(ai 0),(.sc (.slice none 0 0)),(.sc (.slice none 0 0)),(.sc (.slice none 0 0)),(ab false),(ai 1),(ai 0),(ai 0),(ai 0),(ai 0),(ai 0),(.sc (.slice none 0 0)),(.sc (.slice none 0 0)),(.sc (.slice none 0 0)),(ab false),(ai 1),(ai 0),(ai 0),(ai 0),(ai 0),(ai 0),(.sc (.slice none 0 0)),(.sc (.slice none 0 0)),(.sc (.slice none 0 0)),(ab true),(ai 1),(ai 1),(ai 0),(ai 0),(ai 1),(ai 1),(.sl 1054 0 1 1),(.sl 1056 0 1 1),(.sc (.slice none 0 0)),(ab true),(ai 1),(ai 1),(ai 0),(ai 0),(ai 1),(ai 1),(.sl 1057 0 1 1),(.sl 1059 0 1 1),(.sc (.slice none 0 0))] 66 10)),(1053,(.row [(ay [97]),(ai 16),(ai 1),(ai 300),(ay [98]),(ai 17),(ai 1),(ai 200)] 73 0)),(1054,(.row [(ai 5),(ai 1),(ay [97])] 71 0)),(1055,(.row [(ai 10),(ai 2)] 78 0)),(1056,(.row [(.sl 1055 0 1 1),(ai 300)] 80 0)),(1057,(.row [(ai 5),(ai 1),(ay [98])] 71 0)),(1058,(.row [(ai 11),(ai 1)] 78 0)),(1059,(.row [(.sl 1058 0 1 1),(ai 200)] 80 0)),(1148,(.row [(ay [47]),(ay [47,97]),(ay [47,98])] 9 1))]}
theorem zm9 :awc2.Ok Tryz.prog:=Ex.Chunk.ok_of_check awmix (ext:=Ex.extAnd awx0 (Ex.extAnd (Ex.extM [awm0,awm1,awm2,awm3]) (Ex.extOf [awc0,awc1]))) (Ex.extAnd_ok awidx (Ex.extAnd_ok (Ex.extM_ok (List.forall_mem_cons.2 ⟨zdA,(List.forall_mem_cons.2 ⟨zem,(List.forall_mem_cons.2 ⟨zfE,(List.forall_mem_cons.2 ⟨zhd,(zN)⟩)⟩)⟩)⟩)) (Ex.extOf_ok (List.forall_mem_cons.2 ⟨ziS,(List.forall_mem_cons.2 ⟨zkC,(zN)⟩)⟩)))) (k:=2000) (by decide+kernel)
def awc3 :Ex.Chunk:=
 {f:=23,n:=1202,args:=[(.agg [(ai 64),(.sl 1151 0 1 1),(.so 1189 0 18 0),(.sl 1152 0 1 1),(ay [15,12,0,0,0,0,0,0])])],pre:=[(1151,(.row [(ai 0),(ai 4)] 78 0)),(1152,(.row [(ai 1)] 3 0)),(1189,(.row [(ab false),(ai 1),(ai 0),(ai 0),(ai 0),(ai 0),(ai 0),(.sc (.slice none 0 0)),(.sc (.slice none 0 0)),(.sc (.slice none 0 0)),(ab false),(ai 1),(ai 0),(ai 0),(ai 0),(ai 0),(ai 0),(.sc (.slice none 0 0)),(.sc (.slice none 0 0)),(.sc (.slice none 0 0)),(ab false),(ai 1),(ai 0),(ai 0),(ai 0),(ai 0),(ai 0),(.sc (.slice none 0 0)),(.sc (.slice none 0 0)),(.sc (.slice none 0 0)),(ab false),(ai 1),(ai 0),(ai 0),(ai 0),(ai 0),(ai 0),(.sc (.slice none 0 0)),(.sc (.slice none 0 0)),(.sc (.slice none 0 0)),(ab false),(ai 1),(ai 0),(ai 0),(ai 0),(ai 0),(ai 0),(.sc (.slice none 0 0)),(.sc (.slice none 0 0)),(.sc (.slice none 0 0)),(ab true),(ai 1),(ai 0),(ai 0),(ai 0),(ai 0),(ai 1),(.sc (.slice none 0 0)),(.sc (.slice none 0 0)),(.sl 1191 0 2 2),(ab false),(ai 1),(ai 0),(ai 0),(ai 0),(ai 0),(ai 0),(.sc (.slice none 0 0)),(.sc (.slice none 0 0)),(.sc (.slice none 0 0)),(ab false),(ai 1),(ai 0),(ai 0),(ai 0),(ai 0),(ai 0),(.sc (.slice none 0 0)),(.sc (.slice none 0 0)),(.sc (.slice none 0 0)),(ab false),(ai 1),(ai 0),(ai 0),(ai 0),(ai 0),(ai 0),(.sc (.slice none 0 0)),(.sc (.slice none 0 0)),(.sc (.slice none 0 0)),(ab false),(ai 1),(ai 0),(ai 0),(ai 0),(ai 0),(ai 0),(.sc (.slice none 0 0)),(.sc (.slice none 0 0)),(.sc (.slice none 0 0)),(ab false),(ai 1),(ai 0),(ai 0),(ai 0),(ai 0),(ai 0),(.sc (.slice none 0 0)),(.sc (.slice none 0 0)),(.sc (.slice none 0 0)),(ab false),(ai 1),(ai 0),(ai 0),(ai 0),(ai 0),(ai 0),(.sc (.slice none 0 0)),(.sc (.slice none 0 0)),(.sc (.slice none 0 0)),(ab false),(ai 1),(ai 0),(ai 0),(ai 0),(ai 0),(ai 0),(.sc (.slice none 0 0)),(.sc (.slice none 0 0)),(.sc (.slice none 0 0)),(ab false),(ai 1),(ai 0),(ai 0),(ai 0),(ai 0),(ai 0),(.sc (.slice none 0 0)),(.sc (.slice none 0 0)),(.sc (.slice none 0 0)),(ab false),(ai 1),(ai 0),(ai 0),(ai 0),(ai 0),(ai 0),(.sc (.slice none 0 0)),(.sc (.slice none 0 0)),(.sc (.slice none 0 0)),(ab false),(ai 1),(ai 0),(ai 0),(ai 0),(ai 0),(ai 0),(.sc (.slice none 0 0)),(.sc (.slice none 0 0)),(.sc (.slice none 0 0)),(ab true),(ai 1),(ai 1),(ai 0),(ai 0),(ai 1),(ai 1),(.sl 1192 0 1 1),(.sl 1194 0 1 1),(.sc (.slice none 0 0)),(ab true),(ai 1),(ai 1),(ai 0),(ai 0),(ai 1),(ai 1),(.sl 1195 0 1 1),(.sl 1197 0 1 1),(.sc (.slice none 0 0))] 66 10)),(1191,(.row [(ay [97]),(ai 16),(ai 1),(ai 300),(ay [98]),(ai 17),(ai 1),(ai 200)] 73 0)),(1192,(.row [(ai 5),(ai 1),(ay [97])] 71 0)),(1193,(.row [(ai 10),(ai 2)] 78 0)),(1194,(.row [(.sl 1193 0 1 1),(ai 300)] 80 0)),(1195,(.row [(ai 5),(ai 1),(ay [98])] 71 0)),(1196,(.row [(ai 11),(ai 1)] 78 0)),(1197,(.row [(.sl 1196 0 1 1),(ai 200)] 80 0))],v:=(.tup [(.so 1683 0 1 0),(ai 0)]),n':=1687,post:=[(1151,(.row [(ai 0),(ai 4)] 78 0)),(1152,(.row [(ai 1)] 3 0)),(1189,(.row [(ab false),(ai 1),(ai 0),(ai 0),(ai 0),(ai 0),(ai 0),(.sc (.slice none 0 0)),(.sc (.slice none 0 0)),(.sc (.slice none 0 0)),(ab false),(ai 1),(ai 0),(ai 0),(ai 0),(ai 0),(ai 0),(.sc (.slice none 0 0)),(.sc (.slice none 0 0)),(.sc (.slice none 0 0)),(ab false),(ai 1),(ai 0),(ai 0),(ai 0),(ai 0),(ai 0),(.sc (.slice none 0 0)),(.sc (.slice none 0 0)),(.sc (.slice none 0 0)),(ab false),(ai 1),(ai 0),(ai 0),(ai 0),(ai 0),(ai 0),(.sc (.slice none 0 0)),(.sc (.slice none 0 0)),(.sc (.slice none 0 0)),(ab false),(ai 1),(ai 0),(ai 0),(ai 0),(ai 0),(ai 0),(.sc (.slice none 0 0)),(.sc (.slice none 0 0)),(.sc (.slice none 0 0)),(ab true),(ai 1),(ai 0),(ai 0),(ai 0),(ai 0),(ai 1),(.sc (.slice none 0 0)),(.sc (.slice none 0 0)),(.sl 1191 0 2 2),(ab false),(ai 1),(ai 0),(ai 0),(ai 0),(ai 0),(ai 0),(.sc (.slice none 0 0)),(.sc (.slice none 0 0)),(.sc (.slice none 0 0)),(ab false),(ai 1),(ai 0),(ai 0),(ai 0),(ai 0),(ai 0),(.sc (.slice none 0 0)),(.sc (.slice none 0 0)),(.sc (.slice none 0 0)),(ab false),(ai 1),(ai 0),(ai 0),(ai 0),(ai 0),(ai 0),(.sc (.slice none 0 0)),(.sc (.slice none 0 0)),(.sc (.slice none 0 0)),(ab false),(ai 1),(ai 0),(ai 0),(ai 0),(ai 0),(ai 0),(.sc (.slice none 0 0)),(.sc (.slice none 0 0)),(.sc (.slice none 0 0)),(ab false),(ai 1),(ai 0),(ai 0),(ai 0),(ai 0),(ai 0),(.sc (.slice none 0 0)),(.sc (.slice none 0 0)),(.sc (.slice none 0 0)),(ab false),(ai 1),(ai 0),(ai 0),(ai 0),(ai 0),(ai 0),(.sc (.slice none 0 0)),(.sc (.slice none 0 0)),(.sc (.slice none 0 0)),(ab false),(ai 1),(ai 0),(ai 0),(ai 0),(ai 0),(ai 0),(.sc (.slice none 0 0)),(.sc (.slice none 0 0)),(.sc (.slice none 0 0)),(ab false),(ai 1),(ai 0),(ai 0),(ai 0),(ai 0),(ai 0),(.sc (.slice none 0 0)),(.sc (.slice none 0 0)),(.sc (.slice none 0 0)),(ab false),(ai 1),(ai 0),(ai 0),(ai 0),(ai 0),(ai 0),(.sc (.slice none 0 0)),(.sc (.slice none 0 0)),(.sc (.slice none 0 0)),(ab false),(ai 1),(ai 0),(ai 0),(ai 0),(ai 0),(ai 0),(.sc (.slice none 0 0)),(.sc (.slice none 0 0)),(.sc (.slice none 0 0)),(ab true),(ai 1),(ai 1),(ai 0),(ai 0),(ai 1),(ai 1),(.sl 1192 0 1 1),(.sl 1194 0 1 1),(.sc (.slice none 0 0)),(ab true),(ai 1),(ai 1),(ai 0),(ai 0),(ai 1),(ai 1),(.sl 1195 0 1 1),(.sl 1197 0 1 1),(.sc (.slice none 0 0))] 66 10)),(1191,(.row [(ay [97]),(ai 16),(ai 1),(ai 300),(ay [98]),(ai 17),(ai 1),(ai 200)] 73 0)),(1192,(.row [(ai 5),(ai 1),(ay [97])] 71 0)),(1193,(.row [(ai 10),(ai 2)] 78 0)),(1194,(.row [(.sl 1193 0 1 1),(ai 300)] 80 0)),(1195,(.row [(ai 5),(ai 1),(ay [98])] 71 0)),(1196,(.row [(ai 11),(ai 1)] 78 0)),(1197,(.row [(.sl 1196 0 1 1),(ai 200)] 80 0)),(1683,(.row [(ai 16)] 3 1))]}
theorem awc3_ok :awc3.Ok Tryz.prog:=Ex.Chunk.ok_of_check awmix (ext:=Ex.extAnd awx0 (Ex.extAnd (Ex.extM [awm0,awm1,awm2,awm3]) (Ex.extOf [awc0,awc1,awc2]))) (Ex.extAnd_ok awidx (Ex.extAnd_ok (Ex.extM_ok (List.forall_mem_cons.2 ⟨zdA,(List.forall_mem_cons.2 ⟨zem,(List.forall_mem_cons.2 ⟨zfE,(List.forall_mem_cons.2 ⟨zhd,(zN)⟩)⟩)⟩)⟩)) (Ex.extOf_ok (List.forall_mem_cons.2 ⟨ziS,(List.forall_mem_cons.2 ⟨zkC,(List.forall_mem_cons.2 ⟨zm9,(zN)⟩)⟩)⟩)))) (k:=2000) (by decide+kernel)
abbrev awext :Ex.Ext:=Ex.extAnd awx0 (Ex.extAnd (Ex.extM [awm0,awm1,awm2,awm3]) (Ex.extOf [awc0,awc1,awc2,awc3]))
theorem zcy :Ex.ExtOk Tryz.prog awext:=Ex.extAnd_ok awidx (Ex.extAnd_ok (Ex.extM_ok (List.forall_mem_cons.2 ⟨zdA,(List.forall_mem_cons.2 ⟨zem,(List.forall_mem_cons.2 ⟨zfE,(List.forall_mem_cons.2 ⟨zhd,(zN)⟩)⟩)⟩)⟩)) (Ex.extOf_ok (List.forall_mem_cons.2 ⟨ziS,(List.forall_mem_cons.2 ⟨zkC,(List.forall_mem_cons.2 ⟨zm9,(List.forall_mem_cons.2 ⟨awc3_ok,(zN)⟩)⟩)⟩)⟩)))
theorem awake_run :Ex.bang Tryz.prog awext 2000 10 [] (.bool true)=true:=by decide+kernel
open Go.RowKit in
theorem awake_any (w:World) (ht:Ex.TabW w):Calls Tryz.prog 10 #[] w fun e w'=>e= .returned (.bool true)∧Below w.heap.size w w':=Ex.calls_of_bang awmix zcy (args:=[]) awake_run w ht
end Go.Proofs.YtgcjejajljhnaaaGreatDoor
namespace Go.Proofs.YtgcjejajljhnaaaGreatDoor
open Go.Ex Ck
set_option maxRecDepth 100000
set_option maxHeartbeats 4000000
theorem UpperTable_bang :Ex.bang Tryz.prog awext 4000 230 [] (.string ⟨⟨(List.range 128).map fun i=>Ck.upB (UInt8.ofNat i)⟩⟩)=true:=by decide+kernel
theorem UpperTable_k :PureC Tryz.prog 230 [] (tb ((List.range 128).map fun i=>Ck.upB (UInt8.ofNat i))):=fun _=>CallOk.of_below (args:=[]) fun w=>Ex.calls_of_bang awmix zcy (args:=[]) UpperTable_bang w
end Go.Proofs.YtgcjejajljhnaaaGreatDoor
namespace Ck
def bsum (f:Nat→Bool) (j:Nat):Nat→Nat
 |0=>0
 |k+1=>bsum f j k+(if f (8*j+k) then 2^k else 0)
theorem zg8 (f:Nat→Bool) (j:Nat):∀m,bsum f j m<2^m
 |0=>by simp[bsum]
 |m+1=>by
  have:=zg8 f j m;unfold bsum;rw[Nat.pow_succ];split<;>omega
theorem zlK (f:Nat→Bool) (j:Nat):∀m k,k<m→(bsum f j m).testBit k=f (8*j+k)
 |0,k,h=>by omega
 |m+1,k,h=>by
  unfold bsum;have hl:=zg8 f j m;by_cases hk:k<m
  ·rw[←zlK f j m k hk];split
   ·rw[Nat.add_comm,Nat.testBit_two_pow_add_gt hk]
   ·rw[Nat.add_zero]
  ·obtain rfl:k=m:=by omega
   split
   ·rename_i h1;rw[Nat.add_comm,Nat.testBit_two_pow_add_eq,Nat.testBit_lt_two_pow hl,h1];rfl
   ·rename_i h1;rw[Nat.add_zero,Nat.testBit_lt_two_pow hl];simpa using h1
theorem zlL (f g:Nat→Bool) (c:Nat) (hc:f c=false) (hg:∀i,g i=if i=c then true else f i):∀m,m≤8→bsum g (c/8) m=bsum f (c/8) m+if c%8<m then 2^(c%8) else 0
 |0,_=>by simp[bsum]
 |m+1,h8=>by
  have ih:=zlL f g c hc hg m (by omega);show bsum g (c/8) m+(if g (8*(c/8)+m) then 2^m else 0)=bsum f (c/8) m+(if f (8*(c/8)+m) then 2^m else 0)+_;rw[ih];by_cases h1:c%8=m
  ·have e2:8*(c/8)+m=c:=by omega
   rw[e2,hg,if_pos rfl,hc,h1,if_neg (Nat.lt_irrefl _),if_pos (Nat.lt_succ_self _)];simp
  ·have e2:8*(c/8)+m≠c:=by omega
   rw[hg,if_neg e2];by_cases h2:c%8<m
   ·rw[if_pos h2,if_pos (show c%8<m+1 by omega)];omega
   ·rw[if_neg h2,if_neg (show ¬c%8<m+1 by omega)];omega
theorem bsum_one {f g:Nat→Bool} {c:Nat} (hc:f c=false) (hg:∀i,g i=if i=c then true else f i):bsum g (c/8) 8=bsum f (c/8) 8+2^(c%8):=by
 rw[zlL f g c hc hg 8 (Nat.le_refl _),if_pos (Nat.mod_lt _ (by omega))]
theorem zjR {f g:Nat→Bool} {j:Nat}:∀m,m≤8→(∀k,k<8→g (8*j+k)=f (8*j+k))→bsum g j m=bsum f j m
 |0,_,_=>rfl
 |m+1,h,hg=>by
  unfold bsum;rw[zjR m (by omega) hg,hg m (by omega)]
def zkB (f:Nat→Bool) (j:Nat):UInt8:=UInt8.ofNat (bsum f j 8)
theorem zeY (f:Nat→Bool) (j:Nat):(zkB f j).toNat=bsum f j 8:=by
 have:=zg8 f j 8;unfold zkB;rw[UInt8.toNat_ofNat'];exact Nat.mod_eq_of_lt this
def zc7 (n:Nat) (f:Nat→Bool):List UInt8:=(List.range n).map (zkB f)
def zg6 (n:Nat) (t:List Bool):List UInt8:=zc7 n (at_ false t)
theorem zhR (n:Nat) (f:Nat→Bool):(zc7 n f).length=n:=by simp[zc7]
theorem zjQ (n:Nat) (f:Nat→Bool) (j:Nat) (h:j<n):at_ 0 (zc7 n f) j=zkB f j:=by
 rw[zaG _ _ _ (by rw[zhR];exact h)];simp[zc7]
theorem bytesF_set (n:Nat) (f g:Nat→Bool) (c:Nat) (b:UInt8) (hn:c/8<n) (hg:∀i,g i=if i=c then true else f i) (hb:b=zkB g (c/8)):(zc7 n f).set (c/8) b=zc7 n g:=by
 apply List.ext_getElem (by simp[zc7]);intro j h1 h2
 have hj:j<n:=by simpa[zc7] using h2
 rw[List.getElem_set];split
 ·rename_i e;subst e;rw[hb];simp[zc7]
 ·rename_i e;simp only[zc7,List.getElem_map,List.getElem_range];unfold zkB;rw[zjR (f:=f) (g:=g) 8 (Nat.le_refl _) (fun k hk=>by rw[hg,if_neg (by omega)])]
theorem or_bit (x k:Nat) (h:x.testBit k=false):x|||2^k=x+2^k:=by
 rw[Nat.add_comm,Nat.or_comm];apply Nat.eq_of_testBit_eq;intro i;rw[Nat.testBit_or,Nat.testBit_two_pow];by_cases hi:i<k
 ·rw[Nat.testBit_two_pow_add_gt hi];simp;intro h2;omega
 ·by_cases he:i=k
  ·subst he;rw[Nat.testBit_two_pow_add_eq,h];simp
  ·have hi:k<i:=by omega
   rw[show decide (k=i)=false by simp;omega,Bool.false_or]
   obtain⟨d,rfl⟩:∃d,i=k+1+d:=⟨i-k-1,by omega⟩
   rw[Nat.testBit_eq_decide_div_mod_eq,Nat.testBit_eq_decide_div_mod_eq]
   congr 2
   have hx:x/2^k%2=0:=by
    rw[Nat.testBit_eq_decide_div_mod_eq] at h;have:=of_decide_eq_false h;omega
   have e1:∀y:Nat,y/2^(k+1+d)=y/2^k/2/2^d:=by
    intro y;rw[Nat.pow_add,Nat.pow_succ,←Nat.div_div_eq_div_mul,←Nat.div_div_eq_div_mul]
   rw[e1,e1]
   congr 2
   have:(2^k+x)/2^k=x/2^k+1:=by
    rw[Nat.add_comm,Nat.add_div_right _ (Nat.two_pow_pos k)]
   rw[this];omega
theorem or_same (x k:Nat) (h:x.testBit k=true):x|||2^k=x:=by
 apply Nat.eq_of_testBit_eq;intro i;rw[Nat.testBit_or,Nat.testBit_two_pow];by_cases he:k=i
 ·subst he;rw[h];rfl
 ·simp[he]
theorem setBit_bytes (n:Nat) (t:List Bool) (c:Nat) (hc:c<t.length) (hn:c/8<n):zi7 (zg6 n t) c=zg6 n (t.set c true):=by
 have hg:∀i,at_ false (t.set c true) i=if i=c then true else at_ false t i:=fun i=>by
  by_cases h:i=c
  ·subst h;rw[if_pos rfl,zal _ _ _ _ hc]
  ·rw[if_neg h,zau _ _ _ _ _ (fun e=>h e.symm)]
 unfold zi7 zg6;refine bytesF_set n _ _ c _ hn hg ?_;rw[zjQ _ _ _ hn];have h8:c%8<8:=Nat.mod_lt _ (by omega);have hp:2^(c%8)<256:=Nat.lt_of_lt_of_le (Nat.pow_lt_pow_right (by omega) h8) (Nat.le_refl _)
 have hb:(bsum (at_ false t) (c/8) 8).testBit (c%8)=at_ false t c:=by
  rw[zlK _ _ _ _ h8,show 8*(c/8)+c%8=c by omega]
 apply UInt8.toNat_inj.1;rw[UInt8.toNat_or,zeY,zeY,UInt8.toNat_ofNat',Nat.mod_eq_of_lt hp]
 cases h:at_ false t c with
 |true=>
  rw[h] at hb;rw[or_same _ _ hb]
  have:at_ false (t.set c true)=at_ false t:=funext fun i=>by
   rw[hg];split
   ·rename_i e;rw[e,h]
   ·rfl
  rw[this]
 |false=>
  rw[h] at hb;rw[or_bit _ _ hb,bsum_one h hg]
def runT (c:Int) (r:Run) (t:List Bool):List Bool:=it (fun t k=>if r.s≠-1∧r.s+k<c then t.set (r.s+k).toNat true else t) t r.l.toNat
def zoh (c:Int) (l:List Run) (t:List Bool):List Bool:=it (fun t i=>runT c (at_ Run.o l i) t) t l.length
def smsT (c:Int) (l:List Sm) (t:List Bool):List Bool:=it (fun t i=>zoh c (at_ Sm.o l i).r t) t l.length
def usedT (v:Pt):List Bool:=it (fun t i=>smsT v.c (at_ Rc.o v.rs i).ss t) (zoh v.c v.al (List.replicate v.c.toNat false)) v.rs.length
theorem zjy {α:Type} {f:List α→Nat→List α} (hf:∀t k,(f t k).length=t.length) (t:List α):∀n,(it f t n).length=t.length
 |0=>rfl
 |n+1=>by show(f (it f t n) n).length=_;rw[hf,zjy hf t n]
theorem zjx {S T:Type} {f:S→Nat→S} {g:T→Nat→T} (R:S→T→Prop) {s:S} {t:T} (h0:R s t):∀n,(∀s t k,k<n→R s t→R (f s k) (g t k))→R (it f s n) (it g t n)
 |0,_=>h0
 |n+1,h=>h _ _ n (by omega) (zjx R h0 n fun s t k hk=>h s t k (by omega))
def zda (c:Int) (b:List UInt8) (t:List Bool):Prop:=b=zg6 ((c+7)/8).toNat t∧t.length=c.toNat
theorem mark1_bits {c:Int} (r:Run) (hs: -1≤r.s) {b:List UInt8} {t:List Bool} (k:Nat) (h:zda c b t):zda c (zcs c r b k) (if r.s≠-1∧r.s+k<c then t.set (r.s+k).toNat true else t):=by
 obtain⟨rfl,hl⟩:=h;unfold zcs;split
 ·rename_i hc;refine⟨setBit_bytes _ _ _ (by omega) (by omega),by simpa using hl⟩
 ·exact⟨rfl,hl⟩
theorem zjp {c:Int} (l:List Run) (hs:∀r∈l,-1≤r.s) {b:List UInt8} {t:List Bool} (h:zda c b t):zda c (mark c l b) (zoh c l t):=
 zjx (zda c) h _ fun b t i hi h=>zjx (zda c) h _ fun b t k _ h=>mark1_bits _ (hs _ (at_mem _ _ _ hi)) k h
theorem markRec_bits {c:Int} (x:Rc) (hs:∀s∈x.ss,∀r∈s.r,-1≤r.s) {b:List UInt8} {t:List Bool} (h:zda c b t):zda c (zdr c x b) (smsT c x.ss t):=
 zjx (zda c) h _ fun b t i hi h=>zjp _ (hs _ (at_mem _ _ _ hi)) h
theorem used_bits (v:Pt) (ha:∀r∈v.al,-1≤r.s) (hs:∀x∈v.rs,∀s∈x.ss,∀r∈s.r,-1≤r.s):zda v.c (used v) (usedT v):=by
 refine zjx (zda v.c) (zjp _ ha ⟨?_,by simp⟩) _ fun b t i hi h=>markRec_bits _ (hs _ (at_mem _ _ _ hi)) h
 unfold zg6 zc7;apply List.ext_getElem (by simp);intro j h1 h2
 have e:zkB (at_ false (List.replicate v.c.toNat false)) j=0:=by
  apply UInt8.toNat_inj.1;rw[zeY]
  have:∀m,bsum (at_ false (List.replicate v.c.toNat false)) j m=0:=by
   intro m
   induction m with
   |zero=>rfl
   |succ m ih=>
    unfold bsum;rw[ih];unfold at_;rw[List.getElem?_replicate];split<;>rfl
  rw[this];rfl
 simp[e]
inductive Rch (v:Pt):Nat→Prop
 |root:Rch v 5
 |step {d:Nat} {x:En}:Rch v d→dir (at_ Rc.o v.rs d)=true→x∈(at_ Rc.o v.rs d).es→right v x.f=true→Rch v x.f.r.toNat
open Classical in
noncomputable def rchB (v:Pt) (i:Nat):Bool:=decide (Rch v i)
noncomputable def rchL (v:Pt):List Bool:=(List.range v.rs.length).map (rchB v)
theorem zf5 (v:Pt):(rchL v).length=v.rs.length:=by simp[rchL]
theorem zka (v:Pt) (i:Nat) (h:i<v.rs.length):at_ false (rchL v) i=rchB v i:=by
 rw[zaG _ _ _ (by rw[zf5];exact h)];simp[rchL]
theorem zcV (v:Pt) (i:Nat):rchB v i=true↔Rch v i:=by unfold rchB;simp
theorem rch_of (v:Pt) (L:List Bool) (hl:L.length=v.rs.length) (h1:∀i,at_ false L i=true→Rch v i) (h5:at_ false L 5=true)
  (hc:∀d:Nat,at_ false L d=true→dir (at_ Rc.o v.rs d)=true→∀x∈(at_ Rc.o v.rs d).es,right v x.f=true→at_ false L x.f.r.toNat=true):L=rchL v:=by
 have h2:∀i,Rch v i→at_ false L i=true:=by
  intro i hi
  induction hi with
  |root=>exact h5
  |step _ hd hx hr ih=>exact hc _ ih hd _ hx hr
 apply List.ext_getElem (by rw[zf5];exact hl);intro i h3 h4;have e1:at_ false L i=L[i]:=zaG _ _ _ h3
 have e2:(rchL v)[i]=rchB v i:=by rw[←zka v i (by omega),zaG _ _ _ h4]
 rw[e2,←e1]
 cases h:at_ false L i with
 |true=>exact((zcV v i).2 (h1 i h)).symm
 |false=>
  cases h':rchB v i with
  |false=>rfl
  |true=>rw[h2 i ((zcV v i).1 h')] at h;cases h
end Ck
namespace Ck
theorem zb7 {v:Pt} {r:Ref} (h:right v r=true):0≤r.r∧r.r.toNat<v.rs.length:=by
 unfold right wi at h;simp only[Bool.and_eq_true,decide_eq_true_eq] at h;omega
def cntF :List Bool→Nat
 |[]=>0
 |b::l=>(if b then 0 else 1)+cntF l
theorem zbJ :∀(l:List Bool) (i:Nat),i<l.length→at_ false l i=false→cntF (l.set i true)+1=cntF l
 |[],i,h,_=>by simp at h
 |b::l,0,_,h0=>by
  have:b=false:=h0;subst this;simp[cntF];omega
 |b::l,i+1,h,h0=>by
  have:=zbJ l i (by simpa using h) (by simpa[at_] using h0);simp only[List.set_cons_succ,cntF];omega
theorem ze3 (l:List Bool) (i j:Nat):at_ false (l.set i true) j=true→at_ false l j=true∨j=i:=by
 intro h;by_cases e:i=j
 ·exact .inr e.symm
 ·rw[zau _ _ _ _ _ e] at h;exact .inl h
theorem zcn (l:List Bool) (i j:Nat) (h:at_ false l j=true):at_ false (l.set i true) j=true:=by
 have hj:j<l.length:=by
  unfold at_ at h
  rcases Nat.lt_or_ge j l.length with h1|h1
  ·exact h1
  ·rw[List.getElem?_eq_none h1] at h;cases h
 by_cases e:i=j
 ·subst e;rw[zal _ _ _ _ hj]
 ·rw[zau _ _ _ _ _ e];exact h
structure Mks (v:Pt) (L:List Bool):Prop where
 len:L.length=v.rs.length
 snd:∀i,at_ false L i=true→Rch v i
 r5:at_ false L 5=true
def zeO (v:Pt):List Bool:=(List.replicate v.rs.length false).set 5 true
theorem zkV (n i:Nat):at_ false (List.replicate n false) i=false:=by
 unfold at_;rw[List.getElem?_replicate];split<;>rfl
theorem Mks.start {v:Pt} (h:5<v.rs.length):Mks v (zeO v):=by
 refine⟨by simp[zeO],fun i hi=> ?_,zal _ _ _ _ (by simpa using h)⟩
 rcases ze3 _ _ _ hi with h1|h1
 ·rw[zkV] at h1;cases h1
 ·subst h1;exact .root
theorem Mks.set {v:Pt} {L:List Bool} (h:Mks v L) {d:Nat} {x:En} (hd:Rch v d) (hdir:dir (at_ Rc.o v.rs d)=true) (hx:x∈(at_ Rc.o v.rs d).es) (hr:right v x.f=true):Mks v (L.set x.f.r.toNat true):=
 ⟨by simpa using h.len,fun i hi=>by
  rcases ze3 _ _ _ hi with h1|h1
  ·exact h.snd i h1
  ·subst h1;exact .step hd hdir hx hr,zcn _ _ _ h.r5⟩
def Clo (v:Pt) (L:List Bool) (d:Nat):Prop:=at_ false L d=true→dir (at_ Rc.o v.rs d)=true→∀x∈(at_ Rc.o v.rs d).es,right v x.f=true→at_ false L x.f.r.toNat=true
theorem Mks.fin {v:Pt} {L:List Bool} (h:Mks v L) (hc:∀d,d<v.rs.length→Clo v L d):L=rchL v:=
 rch_of v L h.len h.snd h.r5 fun d h1 h2 x hx hr=>by
  have hd:d<v.rs.length:=by
   rcases Nat.lt_or_ge d v.rs.length with h3|h3
   ·exact h3
   ·unfold at_ at h1;rw[List.getElem?_eq_none (by rw[h.len];exact h3)] at h1;cases h1
  exact hc d hd h1 h2 x hx hr
structure Que (v:Pt) (L:List Bool) (Q:List Int):Prop where
 m:Mks v L
 q:∀d∈Q,0≤d∧d.toNat<v.rs.length∧at_ false L d.toNat=true∧dir (at_ Rc.o v.rs d.toNat)=true
 c:∀d:Nat,(d:Int)∈Q∨Clo v L d
theorem Que.start {v:Pt} (h:5<v.rs.length) (hd:dir (at_ Rc.o v.rs 5)=true):Que v (zeO v) [5]:=by
 refine⟨.start h,fun d hd2=> ?_,fun d=> ?_⟩
 ·simp only[List.mem_singleton] at hd2;subst hd2;exact⟨by omega,h,(Mks.start h).r5,hd⟩
 ·by_cases e:d=5
  ·subst e;exact .inl (by simp)
  ·refine .inr fun h1=> ?_
   rcases ze3 _ _ _ h1 with h2|h2
   ·rw[zkV] at h2;cases h2
   ·exact absurd h2 e
structure Mid (v:Pt) (d:Nat) (k:Nat) (L:List Bool) (Q:List Int):Prop where
 m:Mks v L
 hd:at_ false L d=true
 hdir:dir (at_ Rc.o v.rs d)=true
 q:∀d∈Q,0≤d∧d.toNat<v.rs.length∧at_ false L d.toNat=true∧dir (at_ Rc.o v.rs d.toNat)=true
 c:∀e:Nat,e≠d→(e:Int)∈Q∨Clo v L e
 k:∀j,j<k→right v (at_ En.o (at_ Rc.o v.rs d).es j).f=true→at_ false L (at_ En.o (at_ Rc.o v.rs d).es j).f.r.toNat=true
theorem Que.pop {v:Pt} {L:List Bool} {d:Int} {Q:List Int} (h:Que v L (d::Q)):Mid v d.toNat 0 L Q:=by
 obtain⟨h0,h1,h2,h3⟩:=h.q d (by simp);refine⟨h.m,h2,h3,fun e he=>h.q e (by simp[he]),fun e he=> ?_,fun j hj=>absurd hj (Nat.not_lt_zero _)⟩
 rcases h.c e with h4|h4
 ·rcases List.mem_cons.1 h4 with h5|h5
  ·exact absurd (by omega) he
  ·exact .inl h5
 ·exact .inr h4
theorem Mid.skip {v:Pt} {d k:Nat} {L:List Bool} {Q:List Int} (h:Mid v d k L Q) (hs:right v (at_ En.o (at_ Rc.o v.rs d).es k).f=true→at_ false L (at_ En.o (at_ Rc.o v.rs d).es k).f.r.toNat=true):Mid v d (k+1) L Q:=
 ⟨h.m,h.hd,h.hdir,h.q,h.c,fun j hj hr=>by
  rcases Nat.lt_or_ge j k with h1|h1
  ·exact h.k j h1 hr
  ·obtain rfl:j=k:=by omega
   exact hs hr⟩
theorem Mid.set {v:Pt} {d k:Nat} {L:List Bool} {Q:List Int} (h:Mid v d k L Q) {x:En} (hx:x=at_ En.o (at_ Rc.o v.rs d).es k) (hk:k<(at_ Rc.o v.rs d).es.length) (hr:right v x.f=true) (hn:at_ false L x.f.r.toNat=false):
  Mid v d (k+1) (L.set x.f.r.toNat true) (if dir (at_ Rc.o v.rs x.f.r.toNat) then Q++[x.f.r] else Q):=by
 have hm:x∈(at_ Rc.o v.rs d).es:=by rw[hx];exact at_mem _ _ _ hk
 have hl:=zb7 hr
 have hl2:x.f.r.toNat<L.length:=by rw[h.m.len];exact hl.2
 have hq:∀e∈(if dir (at_ Rc.o v.rs x.f.r.toNat) then Q++[x.f.r] else Q),e∈Q∨(e=x.f.r∧dir (at_ Rc.o v.rs x.f.r.toNat)=true):=fun e he=>by
  split at he
  ·rename_i h1
   rcases List.mem_append.1 he with h2|h2
   ·exact .inl h2
   ·exact .inr ⟨by simpa using h2,h1⟩
  ·exact .inl he
 have hq2:∀e∈Q,e∈(if dir (at_ Rc.o v.rs x.f.r.toNat) then Q++[x.f.r] else Q):=fun e he=>by
  split
  ·exact List.mem_append_left _ he
  ·exact he
 refine⟨h.m.set (h.m.snd _ h.hd) h.hdir hm hr,zcn _ _ _ h.hd,h.hdir,fun e he=> ?_,fun e he=> ?_,fun j hj hrj=> ?_⟩
 ·rcases hq e he with h1|⟨h1,h2⟩
  ·obtain⟨q1,q2,q3,q4⟩:=h.q e h1;exact⟨q1,q2,zcn _ _ _ q3,q4⟩
  ·subst h1;exact⟨hl.1,hl.2,zal _ _ _ _ hl2,h2⟩
 ·rcases h.c e he with h1|h1
  ·exact .inl (hq2 _ h1)
  ·by_cases e1:e=x.f.r.toNat
   ·by_cases e2:dir (at_ Rc.o v.rs x.f.r.toNat)=true
    ·refine .inl ?_;rw[if_pos e2];exact List.mem_append_right _ (by simp;omega)
    ·refine .inr fun _ h3=> ?_
     rw[e1] at h3;exact absurd h3 e2
   ·refine .inr fun h2 h3 y hy hr2=> ?_
    rcases ze3 _ _ _ h2 with h4|h4
    ·exact zcn _ _ _ (h1 h4 h3 y hy hr2)
    ·exact absurd h4 e1
 ·rcases Nat.lt_or_ge j k with h1|h1
  ·exact zcn _ _ _ (h.k j h1 hrj)
  ·obtain rfl:j=k:=by omega
   rw[←hx];exact zal _ _ _ _ hl2
theorem Mid.fin {v:Pt} {d k:Nat} {L:List Bool} {Q:List Int} (h:Mid v d k L Q) (hk:k=(at_ Rc.o v.rs d).es.length):Que v L Q:=by
 refine⟨h.m,h.q,fun e=> ?_⟩;by_cases he:e=d
 ·subst he
  refine .inr fun _ _ x hx hr=> ?_
  obtain⟨j,hj,rfl⟩:=List.getElem_of_mem hx;have:=h.k j (by omega);rw[zaG _ _ _ hj] at this;exact this hr
 ·exact h.c e he
theorem Que.fin {v:Pt} {L:List Bool} (h:Que v L []):L=rchL v:=h.m.fin fun d _=>by
 rcases h.c d with h1|h1
 ·cases h1
 ·exact h1
end Ck
namespace Ck
open Go Go.Ex
theorem zel :∀l:List UInt8,bytesOf (l.map zbk)= .ok l
 |[]=>rfl
 |x::l=>by
  show bd (bytesOf (l.map zbk)) (fun l=> .ok (UInt8.ofNat (x.toNat:Int).toNat::l))=_;rw[zel l];simp[bd]
theorem or_u8 (a:UInt8) (n:Int) (h0:0≤n) (h8:n<8):ze1 .or .u8 (a.toNat:Int) (shlZ .u8 1 n)=((a|||UInt8.ofNat (2^n.toNat)).toNat:Int):=by
 have hk:∃k:Nat,k<8∧n=k:=⟨n.toNat,by omega,by omega⟩
 obtain⟨k,hk,rfl⟩:=hk
 have key:∀k:Fin 8,∀a:Fin 256,ze1 .or .u8 ((a:Nat):Int) (shlZ .u8 1 ((k:Nat):Int))=(((UInt8.ofNat a.1)|||UInt8.ofNat (2^k.1)).toNat:Int):=by decide+kernel
 have:=key ⟨k,hk⟩ ⟨a.toNat,a.toNat_lt⟩;simpa using this
end Ck
namespace Go.Proofs.YtgcjejajljhnaaaGreatDoor
open Go.Ex Ck
set_option maxRecDepth 100000
set_option maxHeartbeats 1000000
theorem zl4 {c:Int} (h:0≤c):c.tdiv 8=((c.toNat/8:Nat):Int):=by
 rw[Int.tdiv_eq_ediv_of_nonneg h];omega
theorem znm {c:Int} (h:0≤c):c.tmod 8=((c.toNat%8:Nat):Int):=by
 rw[Int.tmod_eq_emod_of_nonneg h];omega
theorem setBit_len (t:List UInt8) (c:Nat):(zi7 t c).length=t.length:=by simp[zi7]
theorem mark1_len (c:Int) (r:Run) (t:List UInt8) (k:Nat):(zcs c r t k).length=t.length:=by unfold zcs;split<;>simp[setBit_len]
theorem zhC (c:Int) (r:Run) (t:List UInt8) (n:Nat):(it (zcs c r) t n).length=t.length:=zjy (mark1_len c r) t n
theorem zjo (c:Int) (l:List Run) (t:List UInt8) (n:Nat):(it (fun t i=>it (zcs c (at_ Run.o l i)) t (at_ Run.o l i).l.toNat) t n).length=t.length:=zjy (fun t k=>zhC c _ t _) t n
theorem zmA (v:Pt) (l:List Run) (b:List UInt8) (N:Nat) (hb:b.length=N) (hN:N=((v.c+7)/8).toNat) (hc:0≤v.c∧v.c≤100000) (hl:l.length≤100000) (hr:∀r∈l,-1≤r.s∧r.s≤2147483647∧r.l≤100000):
  HC Tryz.prog 3 125 [LS 2 aRun Run.o l, .ptr 0 0, .ptr 1 0] [.row (aPt v) 26 0, .row [.sl 2 0 N N] 117 0, .row (b.map zbk) 5 0] (.tup []) [.row (aPt v) 26 0, .row [.sl 2 0 N N] 117 0, .row ((Ck.mark v.c l b).map zbk) 5 0]:=by
 refine HC.of kmix (Nat.le_refl 3) ?_
 conv=>whnf
 refine WLoop.inv kmix (D:=Nat) (fun d=>l.length-d) (fun d=>d≤l.length) (fun d=>slots [(0,LS 2 aRun Run.o l),(1, .ptr 0 0),(2, .ptr 1 0),(8,LS 2 aRun Run.o l),(9,ib l.length),(10,ib d)] 44)
  (fun d=>zaj [.row (aPt v) 26 0, .row [.sl 2 0 N N] 117 0, .row ((it (fun t i=>it (zcs v.c (at_ Run.o l i)) t (at_ Run.o l i).l.toNat) b d).map zbk) 5 0]) 0 (Nat.zero_le _) ?_ ?_
 ·(refine Weak.of [0,1,2] [] rfl rfl ?_ ?_<;>(repeat' first|exact zT|refine zA ?_ ?_)<;>(conv=>whnf)<;>(repeat'(exact rfl))<;>(first|(intro _ _;rfl)|(first|exact Or.inr ⟨rfl,rfl⟩|exact Or.inr ⟨rfl,Ck.contL_map (fun _=>rfl) _⟩|(refine Or.inl ⟨rfl,?_⟩;(conv=>whnf);(repeat' first|exact zT|exact rfl|refine zA ?_ ?_)<;>(try(conv=>whnf))))))
 ·intro d hd
  conv=>whnf
  refine KIf.dec (fun h=> ?_) (fun h=> ?_)
  ·have hlt:d<l.length:=by omega
   have hm:=hr _ (at_mem Run.o l d hlt)
   (conv=>whnf);repeat((refine Need.mk ?_ ?_;omega;conv=>whnf))
   refine WLoop.inv kmix (D:=Nat) (fun k=>(at_ Run.o l d).l.toNat-k) (fun k=>k≤(at_ Run.o l d).l.toNat) (fun k=>slots [(0,LS 2 aRun Run.o l),(1, .ptr 0 0),(2, .ptr 1 0),(5, .ptr 3 0),(8,LS 2 aRun Run.o l),(9,ib l.length),(10,ib d),(15,ib (at_ Run.o l d).l),(16,ib k)] 44)
    (fun k=>zaj [.row (aPt v) 26 0, .row [.sl 2 0 N N] 117 0, .row ((it (zcs v.c (at_ Run.o l d)) (it (fun t i=>it (zcs v.c (at_ Run.o l i)) t (at_ Run.o l i).l.toNat) b d) k).map zbk) 5 0, .row [ib (at_ Run.o l d).s,ib (at_ Run.o l d).l] 78 0]) 0 (Nat.zero_le _) ?_ ?_
   ·(refine Weak.of [0,1,2,3] [] rfl rfl ?_ ?_<;>(repeat' first|exact zT|refine zA ?_ ?_)<;>(conv=>whnf)<;>(repeat'(exact rfl))<;>(first|(intro _ _;rfl)|(first|exact Or.inr ⟨rfl,rfl⟩|exact Or.inr ⟨rfl,Ck.contL_map (fun _=>rfl) _⟩|(refine Or.inl ⟨rfl,?_⟩;(conv=>whnf);(repeat' first|exact zT|exact rfl|refine zA ?_ ?_)<;>(try(conv=>whnf))))))
   ·intro k hk;have hbl:=zjo v.c l b d;have hout:it (fun t i=>it (zcs v.c (at_ Run.o l i)) t (at_ Run.o l i).l.toNat) b (d+1)=it (zcs v.c (at_ Run.o l d)) (it (fun t i=>it (zcs v.c (at_ Run.o l i)) t (at_ Run.o l i).l.toNat) b d) (at_ Run.o l d).l.toNat:=rfl
    generalize it (fun t i=>it (zcs v.c (at_ Run.o l i)) t (at_ Run.o l i).l.toNat) b d=b1 at*
    have hb2:(it (zcs v.c (at_ Run.o l d)) b1 k).length=N:=by rw[zhC,hbl,hb]
    have hstep:it (zcs v.c (at_ Run.o l d)) b1 (k+1)=zcs v.c (at_ Run.o l d) (it (zcs v.c (at_ Run.o l d)) b1 k) k:=rfl
    obtain⟨b2,hb2'⟩:∃b2,b2=it (zcs v.c (at_ Run.o l d)) b1 k:=⟨_,rfl⟩
    rw[←hb2'] at hb2 hstep;dsimp only;rw[←hb2']
    conv=>whnf
    refine KIf.dec (fun h2=> ?_) (fun h2=> ?_)
    ·have hk2:k+1≤(at_ Run.o l d).l.toNat:=by omega
     by_cases hs:(at_ Run.o l d).s= -1
     ·have e2:zcs v.c (at_ Run.o l d) b2 k=b2:=if_neg (fun h=>h.1 hs)
      (conv=>whnf);repeat(first|refine KIf.f rfl ?_|refine Need.mk ?_ ?_;((constructor<;>omega))|refine KIf.f (congrArg Bool.not (decide_eq_true hs)) ?_);conv=>whnf
      refine⟨k+1,hk2,by dsimp only;omega,?_⟩;dsimp only;rw[hstep,e2]
      (refine Weak.of [0,1,2,3] [] rfl rfl ?_ ?_<;>(repeat' first|exact zT|refine zA ?_ ?_)<;>(conv=>whnf)<;>(repeat'(exact rfl))<;>(first|(intro _ _;rfl)|(first|exact Or.inr ⟨rfl,rfl⟩|exact Or.inr ⟨rfl,Ck.contL_map (fun _=>rfl) _⟩|(refine Or.inl ⟨rfl,?_⟩;(conv=>whnf);(repeat' first|exact zT|exact rfl|refine zA ?_ ?_)<;>(try(conv=>whnf))))))
     ·by_cases hcc:(at_ Run.o l d).s+k<v.c
      ·have hp:0≤(at_ Run.o l d).s+k:=by omega
       have hix:(0:Int)≤((at_ Run.o l d).s+k).tdiv 8∧((at_ Run.o l d).s+k).tdiv 8<N:=by rw[zl4 hp];omega
       have hq:(8:Int)≠0∧Small (((at_ Run.o l d).s+k).tdiv 8):=⟨by omega,by unfold Small;rw[zl4 hp];omega⟩
       have hm8:0≤((at_ Run.o l d).s+(k:Int)).tmod 8:=by rw[znm hp];omega
       have hm88:((at_ Run.o l d).s+(k:Int)).tmod 8<8:=by rw[znm hp];omega
       have hj:((at_ Run.o l d).s+(k:Int)).toNat/8<b2.length:=by rw[hb2];omega
       have hoff:0+(((at_ Run.o l d).s+(k:Int)).tdiv 8).toNat*1=((at_ Run.o l d).s+(k:Int)).toNat/8:=by rw[zl4 hp];omega
       have e2:zcs v.c (at_ Run.o l d) b2 k=b2.set (((at_ Run.o l d).s+(k:Int)).toNat/8) (at_ 0 b2 (((at_ Run.o l d).s+(k:Int)).toNat/8)|||UInt8.ofNat (2^(((at_ Run.o l d).s+(k:Int)).toNat%8))):=if_pos ⟨hs,hcc⟩
       have hv:AV.sc (.int .u8 (ze1 .or .u8 (at_ 0 b2 (((at_ Run.o l d).s+(k:Int)).toNat/8)).toNat (shlZ .u8 1 (((at_ Run.o l d).s+(k:Int)).tmod 8))))=zbk (at_ 0 b2 (((at_ Run.o l d).s+(k:Int)).toNat/8)|||UInt8.ofNat (2^(((at_ Run.o l d).s+(k:Int)).toNat%8))):=by
        rw[or_u8 _ _ hm8 hm88,znm hp];rfl
       (conv=>whnf);repeat(first|refine KIf.dt ?_ ?_;assumption|refine Need.mk (p:=zah _=true) ?_ ?_;decide+kernel|refine Need.mk ?_ ?_;(first|trivial|(constructor<;>omega))|refine KIf.t (congrArg Bool.not (decide_eq_false hs)) ?_|refine RK.of (Ck.loadM zbk 0 hoff rfl rfl hj) ?_|refine Ck.storeM zbk _ hv hoff rfl rfl rfl rfl rfl hj ?_);conv=>whnf
       refine⟨k+1,hk2,by dsimp only;omega,?_⟩;dsimp only;rw[hstep,e2]
       (refine Weak.of [0,1,2,3] [] rfl rfl ?_ ?_<;>(repeat' first|exact zT|refine zA ?_ ?_)<;>(conv=>whnf)<;>(repeat'(exact rfl))<;>(first|(intro _ _;rfl)|(first|exact Or.inr ⟨rfl,rfl⟩|exact Or.inr ⟨rfl,Ck.contL_map (fun _=>rfl) _⟩|(refine Or.inl ⟨rfl,?_⟩;(conv=>whnf);(repeat' first|exact zT|exact rfl|refine zA ?_ ?_)<;>(try(conv=>whnf))))))
      ·have e2:zcs v.c (at_ Run.o l d) b2 k=b2:=if_neg (fun h=>hcc h.2)
       (conv=>whnf);repeat(first|refine KIf.df ?_ ?_;assumption|refine Need.mk ?_ ?_;((constructor<;>omega))|refine KIf.t (congrArg Bool.not (decide_eq_false hs)) ?_);conv=>whnf
       refine⟨k+1,hk2,by dsimp only;omega,?_⟩;dsimp only;rw[hstep,e2]
       (refine Weak.of [0,1,2,3] [] rfl rfl ?_ ?_<;>(repeat' first|exact zT|refine zA ?_ ?_)<;>(conv=>whnf)<;>(repeat'(exact rfl))<;>(first|(intro _ _;rfl)|(first|exact Or.inr ⟨rfl,rfl⟩|exact Or.inr ⟨rfl,Ck.contL_map (fun _=>rfl) _⟩|(refine Or.inl ⟨rfl,?_⟩;(conv=>whnf);(repeat' first|exact zT|exact rfl|refine zA ?_ ?_)<;>(try(conv=>whnf))))))
    ·have hke:k=(at_ Run.o l d).l.toNat:=by omega
     (conv=>whnf);repeat((refine Need.mk ?_ ?_;((constructor<;>omega));conv=>whnf))
     refine⟨d+1,hlt,by dsimp only;omega,?_⟩;dsimp only;rw[hout,←hke,←hb2']
     (refine Weak.of [0,1,2] [] rfl rfl ?_ ?_<;>(repeat' first|exact zT|refine zA ?_ ?_)<;>(conv=>whnf)<;>(repeat'(exact rfl))<;>(first|(intro _ _;rfl)|(first|exact Or.inr ⟨rfl,rfl⟩|exact Or.inr ⟨rfl,Ck.contL_map (fun _=>rfl) _⟩|(refine Or.inl ⟨rfl,?_⟩;(conv=>whnf);(repeat' first|exact zT|exact rfl|refine zA ?_ ?_)<;>(try(conv=>whnf))))))
  ·have hde:d=l.length:=by omega
   subst hde
   conv=>whnf
   (refine⟨[0,1,2],[],rfl,?_,?_⟩<;>(repeat' first|exact zT|refine zA ?_ ?_)<;>(conv=>whnf)<;>((first|exact Or.inr ⟨rfl,rfl⟩|exact Or.inr ⟨rfl,Ck.contL_map (fun _=>rfl) _⟩|(refine Or.inl ⟨rfl,?_⟩;(conv=>whnf);(repeat' first|exact zT|exact rfl|refine zA ?_ ?_)<;>(try(conv=>whnf))))))
def RunOk (r:Run):Prop:= -1≤r.s∧r.s≤2147483647∧r.l≤100000
structure Okv (v:Pt):Prop where
 c:0≤v.c∧v.c≤100000
 rs:v.rs.length≤100000
 ss:∀x∈v.rs,x.ss.length≤100000
 al:v.al.length≤100000
 ar:∀r∈v.al,RunOk r
 sr:∀x∈v.rs,∀s∈x.ss,s.r.length≤100000∧∀r∈s.r,RunOk r
theorem zip (c:Int) (l:List Run) (t:List UInt8):(Ck.mark c l t).length=t.length:=zjo c l t _
theorem zgT (c:Int) (x:Rc) (t:List UInt8) (n:Nat):(it (fun t k=>Ck.mark c (at_ Sm.o x.ss k).r t) t n).length=t.length:=zjy (fun t k=>zip c _ t) t n
theorem zfS (c:Int) (l:List Rc) (t:List UInt8) (n:Nat):(it (fun t i=>zdr c (at_ Rc.o l i) t) t n).length=t.length:=zjy (fun t k=>zgT c _ t _) t n
theorem znF (v:Pt) (hv:Okv v):PureC Tryz.prog 75 [aPts v] (tb (Ck.used v)):=by
 have hc:=hv.c;have hn:=hv.rs
 obtain⟨N,hN⟩:∃N,N=((v.c+7)/8).toNat:=⟨_,rfl⟩
 have h7:(v.c+7).tdiv 8=(N:Int):=by rw[zl4 (by omega),hN];omega
 have h77:(8:Int)≠0∧Small ((v.c+7).tdiv 8):=⟨by omega,by unfold Small;rw[h7];omega⟩
 have hmk:0≤(v.c+7).tdiv 8∧(v.c+7).tdiv 8≤(v.c+7).tdiv 8∧((v.c+7).tdiv 8).toNat*1≤2^47∧(v.c+7).tdiv 8≤2^60:=by rw[h7];refine⟨?_,?_,?_,?_⟩<;>omega
 have hz:zeros ((v.c+7).tdiv 8).toNat (.int .u8 0)=(List.replicate N (0:UInt8)).map zbk:=by
  rw[h7,zdc (x:= .sc (.int .u8 0)) _ _ rfl];simp[zbk]
 have hb0:(List.replicate N (0:UInt8)).length=N:=by simp
 refine PureC.of kmix rfl ?_
 (conv=>whnf);repeat((refine Need.mk ?_ ?_;(first|trivial|(constructor<;>omega));conv=>whnf))
 (refine KCall.lift [0,2,1] [] (.tup []) [.row (aPt v) 26 0, .row [.sl 1 0 N N] 117 0, .row ((Ck.mark v.c v.al (List.replicate N 0)).map zbk) 5 0] (zmA v v.al (List.replicate N 0) N hb0 hN hc hv.al hv.ar) rfl ?_ ?_ ?_ ?_;(focus((repeat' first|exact zT|refine zA ?_ ?_)<;>(conv=>whnf)<;>((first|exact Or.inr ⟨hz.symm,hz▸contL_map (enc:=zbk) (fun _=>rfl) _⟩|(first|exact Or.inr ⟨rfl,rfl⟩|(refine Or.inl ⟨rfl,?_⟩;(conv=>whnf);(repeat' first|exact zT|exact rfl|refine zA ?_ ?_)<;>(try(conv=>whnf))<;>(omega)))))));(focus((repeat' first|exact zT|exact rfl|refine zA ?_ ?_)<;>(try(conv=>whnf))<;>(repeat'((intro _ _;rfl)))));(focus((repeat' first|exact zT|exact rfl|refine zA ?_ ?_)<;>(try(conv=>whnf))<;>(first|exact Or.inr ⟨rfl,rfl⟩|exact Or.inr ⟨rfl,Ck.contL_map (fun _=>rfl) _⟩|(refine Or.inl ?_;(repeat' first|exact zT|exact rfl|refine zA ?_ ?_)<;>(try(conv=>whnf))))));(conv=>whnf))
 have hl0:(Ck.mark v.c v.al (List.replicate N 0)).length=N:=by rw[zip,hb0]
 have hfin:Ck.used v=it (fun t i=>zdr v.c (at_ Rc.o v.rs i) t) (Ck.mark v.c v.al (List.replicate N 0)) v.rs.length:=by rw[hN];rfl
 generalize Ck.mark v.c v.al (List.replicate N 0)=B at*
 conv=>whnf
 refine WLoop.inv kmix (D:=Nat) (fun d=>v.rs.length-d) (fun d=>d≤v.rs.length)
  (fun d=>slots [(1, .ptr 0 0),(3, .ptr 2 0),(4, .fn (.func 125) [] [.ptr 0 0, .ptr 2 0]),(20,LS 10 aRc Rc.o v.rs),(21,ib v.rs.length),(22,ib d)] 41)
  (fun d=>zaj [.row (aPt v) 26 0, .row ((it (fun t i=>zdr v.c (at_ Rc.o v.rs i) t) B d).map zbk) 5 0, .row [.sl 1 0 N N] 117 0]) 0 (Nat.zero_le _) ?_ ?_
 ·(refine Weak.of [0,1,2] [] rfl rfl ?_ ?_<;>(repeat' first|exact zT|refine zA ?_ ?_)<;>(conv=>whnf)<;>(repeat'(exact rfl))<;>(first|(intro _ _;rfl)|(first|exact Or.inr ⟨rfl,rfl⟩|exact Or.inr ⟨rfl,Ck.contL_map (fun _=>rfl) _⟩|(refine Or.inl ⟨rfl,?_⟩;(conv=>whnf);(repeat' first|exact zT|exact rfl|refine zA ?_ ?_)<;>(try(conv=>whnf))))))
 ·intro d hd;have hbl:=zfS v.c v.rs B d;have hout:it (fun t i=>zdr v.c (at_ Rc.o v.rs i) t) B (d+1)=it (fun t k=>Ck.mark v.c (at_ Sm.o (at_ Rc.o v.rs d).ss k).r t) (it (fun t i=>zdr v.c (at_ Rc.o v.rs i) t) B d) (at_ Rc.o v.rs d).ss.length:=rfl
  obtain⟨b1,hb1⟩:∃b1,b1=it (fun t i=>zdr v.c (at_ Rc.o v.rs i) t) B d:=⟨_,rfl⟩
  rw[←hb1] at hbl hout;dsimp only;rw[←hb1]
  conv=>whnf
  refine KIf.dec (fun h=> ?_) (fun h=> ?_)
  ·have hlt:d<v.rs.length:=by omega
   have hm:=at_mem Rc.o v.rs d hlt;have hss:=hv.ss _ hm
   (conv=>whnf);repeat((refine Need.mk ?_ ?_;omega;conv=>whnf))
   refine WLoop.inv kmix (D:=Nat) (fun k=>(at_ Rc.o v.rs d).ss.length-k) (fun k=>k≤(at_ Rc.o v.rs d).ss.length)
    (fun k=>slots [(1, .ptr 0 0),(3, .ptr 2 0),(4, .fn (.func 125) [] [.ptr 0 0, .ptr 2 0]),(20,LS 10 aRc Rc.o v.rs),(21,ib v.rs.length),(22,ib d),(27,LS 2 aSm Sm.o (at_ Rc.o v.rs d).ss),(28,ib (at_ Rc.o v.rs d).ss.length),(29,ib k)] 41)
    (fun k=>zaj [.row (aPt v) 26 0, .row ((it (fun t k=>Ck.mark v.c (at_ Sm.o (at_ Rc.o v.rs d).ss k).r t) b1 k).map zbk) 5 0, .row [.sl 1 0 N N] 117 0]) 0 (Nat.zero_le _) ?_ ?_
   ·(refine Weak.of [0,1,2] [] rfl rfl ?_ ?_<;>(repeat' first|exact zT|refine zA ?_ ?_)<;>(conv=>whnf)<;>(repeat'(exact rfl))<;>(first|(intro _ _;rfl)|(first|exact Or.inr ⟨rfl,rfl⟩|exact Or.inr ⟨rfl,Ck.contL_map (fun _=>rfl) _⟩|(refine Or.inl ⟨rfl,?_⟩;(conv=>whnf);(repeat' first|exact zT|exact rfl|refine zA ?_ ?_)<;>(try(conv=>whnf))))))
   ·intro k hk;have hbl2:=zgT v.c (at_ Rc.o v.rs d) b1 k;have hstep:it (fun t k=>Ck.mark v.c (at_ Sm.o (at_ Rc.o v.rs d).ss k).r t) b1 (k+1)=Ck.mark v.c (at_ Sm.o (at_ Rc.o v.rs d).ss k).r (it (fun t k=>Ck.mark v.c (at_ Sm.o (at_ Rc.o v.rs d).ss k).r t) b1 k):=rfl
    obtain⟨b2,hb2⟩:∃b2,b2=it (fun t k=>Ck.mark v.c (at_ Sm.o (at_ Rc.o v.rs d).ss k).r t) b1 k:=⟨_,rfl⟩
    rw[←hb2] at hbl2 hstep;dsimp only;rw[←hb2]
    conv=>whnf
    refine KIf.dec (fun h2=> ?_) (fun h2=> ?_)
    ·have hk2:k<(at_ Rc.o v.rs d).ss.length:=by omega
     have hsr:=hv.sr _ hm _ (at_mem Sm.o _ k hk2)
     (conv=>whnf);repeat((refine Need.mk ?_ ?_;omega;conv=>whnf))
     (refine KCall.lift [0,2,1] [] (.tup []) [.row (aPt v) 26 0, .row [.sl 1 0 N N] 117 0, .row ((Ck.mark v.c (at_ Sm.o (at_ Rc.o v.rs d).ss k).r b2).map zbk) 5 0] (zmA v (at_ Sm.o (at_ Rc.o v.rs d).ss k).r b2 N (by omega) hN hc hsr.1 hsr.2) rfl ?_ ?_ ?_ ?_;(focus((repeat' first|exact zT|refine zA ?_ ?_)<;>(conv=>whnf)<;>((first|exact Or.inr ⟨rfl,rfl⟩|exact Or.inr ⟨rfl,Ck.contL_map (fun _=>rfl) _⟩|(refine Or.inl ⟨rfl,?_⟩;(conv=>whnf);(repeat' first|exact zT|exact rfl|refine zA ?_ ?_)<;>(try(conv=>whnf)))))));(focus((repeat' first|exact zT|exact rfl|refine zA ?_ ?_)<;>(try(conv=>whnf))<;>(repeat'((intro _ _;rfl)))));(focus((repeat' first|exact zT|exact rfl|refine zA ?_ ?_)<;>(try(conv=>whnf))<;>(first|exact Or.inr ⟨rfl,rfl⟩|exact Or.inr ⟨rfl,Ck.contL_map (fun _=>rfl) _⟩|(refine Or.inl ?_;(repeat' first|exact zT|exact rfl|refine zA ?_ ?_)<;>(try(conv=>whnf))))));(conv=>whnf))
     (conv=>whnf);repeat((refine Need.mk ?_ ?_;((constructor<;>omega));conv=>whnf))
     refine⟨k+1,hk2,by dsimp only;omega,?_⟩;dsimp only;rw[hstep]
     (refine Weak.of [0,1,2] [] rfl rfl ?_ ?_<;>(repeat' first|exact zT|refine zA ?_ ?_)<;>(conv=>whnf)<;>(repeat'(exact rfl))<;>(first|(intro _ _;rfl)|(first|exact Or.inr ⟨rfl,rfl⟩|exact Or.inr ⟨rfl,Ck.contL_map (fun _=>rfl) _⟩|(refine Or.inl ⟨rfl,?_⟩;(conv=>whnf);(repeat' first|exact zT|exact rfl|refine zA ?_ ?_)<;>(try(conv=>whnf))))))
    ·have hke:k=(at_ Rc.o v.rs d).ss.length:=by omega
     (conv=>whnf);repeat((refine Need.mk ?_ ?_;((constructor<;>omega));conv=>whnf))
     refine⟨d+1,hlt,by dsimp only;omega,?_⟩;dsimp only;rw[hout,←hke,←hb2]
     (refine Weak.of [0,1,2] [] rfl rfl ?_ ?_<;>(repeat' first|exact zT|refine zA ?_ ?_)<;>(conv=>whnf)<;>(repeat'(exact rfl))<;>(first|(intro _ _;rfl)|(first|exact Or.inr ⟨rfl,rfl⟩|exact Or.inr ⟨rfl,Ck.contL_map (fun _=>rfl) _⟩|(refine Or.inl ⟨rfl,?_⟩;(conv=>whnf);(repeat' first|exact zT|exact rfl|refine zA ?_ ?_)<;>(try(conv=>whnf))))))
  ·have hde:d=v.rs.length:=by omega
   (conv=>whnf);repeat(first|refine RK.of (zjv (enc:=zbk) (l:=b1) rfl (by omega)) ?_|refine RK.of (zel b1) ?_);conv=>whnf
   (refine .z [] ?_;conv=>whnf);(repeat'(fail))<;>(try(conv=>whnf))<;>((rw[hfin,←hde];exact hb1.symm))
end Go.Proofs.YtgcjejajljhnaaaGreatDoor
namespace Ck
theorem upTab (c:UInt8) (h:c.toNat<128):at_ 0 ((List.range 128).map fun i=>upB (UInt8.ofNat i)) c.toNat=upB c:=by
 rw[at_map (fun i=>upB (UInt8.ofNat i)) 0 0 (List.range 128) c.toNat (by simpa using h),zaG 0 _ _ (by simpa using h),List.getElem_range]
 congr 1
 exact UInt8.ofNat_toNat
theorem map_take_drop {α:Type} (f:α→α) (o:α) (s:List α) (d:Nat) (h:d<s.length):((s.take d).map f++s.drop d).set d (f (at_ o s d))=(s.take (d+1)).map f++s.drop (d+1):=by
 have hl:((s.take d).map f).length=d:=by simp;omega
 rw[List.set_append_right _ _ (by omega),hl,Nat.sub_self,drop_at o s d h,List.set_cons_zero,zcz o s d h,List.map_append];simp
theorem at_take_drop {α:Type} (f:α→α) (o:α) (s:List α) (d:Nat) (h:d<s.length):at_ o ((s.take d).map f++s.drop d) d=at_ o s d:=by
 have hl:((s.take d).map f).length=d:=by simp;omega
 unfold at_;rw[List.getElem?_append_right (by omega),hl,Nat.sub_self,List.getElem?_drop,Nat.add_zero]
end Ck
namespace Go.Proofs.YtgcjejajljhnaaaGreatDoor
open Go.Ex Ck
set_option maxRecDepth 100000
set_option maxHeartbeats 4000000
theorem upper_k (s t:List UInt8) (hs:s.length≤100000) (h:∀b∈s,b.toNat<128) (ht:t=(List.range 128).map fun i=>Ck.upB (UInt8.ofNat i)):PureC Tryz.prog 231 [tb t,tb s] (tb (s.map Ck.upB)):=by
 have htl:t.length=128:=by rw[ht];simp
 refine PureC.of kmix rfl ?_
 (conv=>whnf);repeat((refine Need.mk ?_ ?_;omega;conv=>whnf))
 refine WLoop.inv kmix (D:=Nat) (fun d=>s.length-d) (fun d=>d≤s.length) (fun d=>slots [(0,tb t),(5, .so 0 0 s.length 0),(10, .so 0 0 s.length 0),(11,ib s.length),(12,ib d)] 26) (fun d=>zaj [.row (((s.take d).map Ck.upB++s.drop d).map zbk) 5 1]) 0 (Nat.zero_le _) ?_ ?_
 ·(refine Weak.of [0] [] rfl rfl ?_ ?_<;>(repeat' first|exact zT|refine zA ?_ ?_)<;>(conv=>whnf)<;>(repeat'(exact rfl))<;>((exact Or.inr ⟨rfl,Ck.contL_map (fun _=>rfl) _⟩)))
 ·intro d hd
  have hlen:((s.take d).map Ck.upB++s.drop d).length=s.length:=by simp;omega
  have hat:=fun h=>at_take_drop Ck.upB 0 s d h
  have hst:=fun h=>map_take_drop Ck.upB 0 s d h
  have hend:d=s.length→(s.take d).map Ck.upB++s.drop d=s.map Ck.upB:=fun e=>by rw[e];simp
  generalize (s.take d).map Ck.upB++s.drop d=L at*
  conv=>whnf
  refine KIf.dec (fun hl=> ?_) (fun hl=> ?_)
  ·have hlt:d<s.length:=by omega
   have hoff:0+((d:Nat):Int).toNat*1=d:=by simp
   have hj:d<L.length:=by omega
   have hb:=h _ (at_mem 0 s d hlt)
   have hix:(0:Int)≤((at_ 0 s d).toNat:Nat)∧(((at_ 0 s d).toNat:Nat):Int)<(t.length:Nat):=⟨by omega,by omega⟩
   have hv:AV.sc (.int .u8 ((gd 0 t (((at_ 0 s d).toNat:Nat):Int).toNat).toNat:Nat))=zbk (Ck.upB (at_ 0 s d)):=by rw[Int.toNat_natCast,show gd 0 t (at_ 0 s d).toNat=at_ 0 t (at_ 0 s d).toNat from rfl,ht,upTab _ hb];rfl
   (conv=>whnf);repeat(first|refine Need.mk ?_ ?_;exact hix|refine RK.of (Ck.loadMx zbk 0 _ (hat hlt) hoff rfl rfl hj) ?_|refine Ck.storeM zbk (Ck.upB (at_ 0 s d)) ?_ hoff rfl rfl rfl rfl rfl hj ?_;exact hv|refine Need.mk ?_ ?_;(first|omega|(constructor<;>omega)));conv=>whnf
   refine⟨d+1,hlt,by dsimp only;omega,?_⟩;dsimp only;rw[←hst hlt]
   (refine Weak.of [0] [] rfl rfl ?_ ?_<;>(repeat' first|exact zT|refine zA ?_ ?_)<;>(conv=>whnf)<;>(repeat'(exact rfl))<;>((exact Or.inr ⟨rfl,Ck.contL_map (fun _=>rfl) _⟩)))
  ·have hle:s.length=L.length:=hlen.symm
   (conv=>whnf);repeat(first|refine RK.of (zjv (enc:=zbk) (l:=L) rfl hle) ?_|refine RK.of (zel L) ?_);conv=>whnf
   rw[hend (by omega)];refine .z [] ?_;exact zaa rfl
theorem legal_lt {s:List UInt8} (h:zaw s=0):∀b∈s,b.toNat<128:=by
 unfold zaw at h;split at h
 ·cases h
 ·split at h
  ·rename_i hl;unfold legal at hl;simp only[Bool.and_eq_true,List.all_eq_true] at hl;intro b hb;have:=hl.1.1.1.2 b hb;unfold zaI at this;simp only[Bool.and_eq_true,decide_eq_true_eq] at this;omega
  ·cases h
theorem Fold_k (s:List UInt8) (hs:s.length≤100000):PureC Tryz.prog 222 [tb s] (.tup [tb (Ck.fold s),ib (zaw s)]):=by
 refine PureC.of kmix rfl ?_;unfold Ck.fold;by_cases h:zaw s=0
 ·rw[if_pos h]
  (conv=>whnf);repeat(first|refine KCall.pure (zc4 s hs) ?_|refine KIf.f (congrArg Bool.not (decide_eq_true h)) ?_|refine KCall.pure (UpperTable_k) ?_|refine KCall.pure (upper_k s _ hs (legal_lt h) rfl) ?_);conv=>whnf
  rw[h]
  (refine .z [] ?_;conv=>whnf);(repeat' first|exact zT|exact rfl|refine zA ?_ ?_)<;>(try(conv=>whnf))
 ·rw[if_neg h]
  (conv=>whnf);repeat(first|refine KCall.pure (zc4 s hs) ?_|refine KIf.t (congrArg Bool.not (decide_eq_false h)) ?_);conv=>whnf
  (refine .z [] ?_;conv=>whnf);(repeat' first|exact zT|exact rfl|refine zA ?_ ?_)<;>(try(conv=>whnf))
theorem znX (s:List UInt8) (hs:s.length≤100000):PureC Tryz.prog 202 [tb s] (tb (Ck.fold s)):=by
 refine PureC.of kmix rfl ?_
 (conv=>whnf);repeat((refine KCall.pure (Fold_k s hs) ?_;conv=>whnf))
 refine .z [] ?_;exact zaa rfl
theorem zkR (a b:List UInt8) (ha:a.length≤100000) (hb:b.length≤100000):PureC Tryz.prog 173 [tb a,tb b] (bb (Ck.same a b)):=by
 have e:Ck.same a b=decide (Ck.fold a=Ck.fold b):=by unfold Ck.same;rw[Bool.eq_iff_iff];simp
 rw[e];refine PureC.of kmix rfl ?_
 (conv=>whnf);repeat(first|refine KCall.pure (znX a ha) ?_|refine KCall.pure (znX b hb) ?_);conv=>whnf
 refine .z [] ?_;exact zaa rfl
end Go.Proofs.YtgcjejajljhnaaaGreatDoor
namespace Ck
open Go Go.Ex
def pC (p:Rp):List AV:=[ib p.v.c,LS 2 aRun Run.o p.v.al,LS 10 aRc Rc.o p.v.rs,LS 1 aI 0 p.v.ds,tb p.v.mp, .any, .any]
end Ck
namespace Go.Proofs.YtgcjejajljhnaaaGreatDoor
open Go.Ex Ck
set_option maxRecDepth 100000
set_option maxHeartbeats 4000000
theorem IndexF_en_172 (c0:List AV) (P:En→Bool) (l:List En) (hl:l.length≤100000) (hP:∀x∈l,PureC Tryz.prog 172 [.agg (aEn x), .cp c0 0] (bb (P x))):PureC Tryz.prog 177 [LS 4 aEn En.o l, .fn (.func 172) [] [.cp c0 0]] (ib (ixL P l 0)):=by
 obtain⟨W,hW⟩:∃W,ixL P l 0=W:=⟨_,rfl⟩
 rw[hW];have hW:ixL P (l.drop 0) 0=W:=hW;refine PureC.of kmix rfl ?_
 conv=>whnf
 refine WLoop.inv kmix (D:=Nat) (fun d=>l.length-d) (fun d=>d≤l.length∧ixL P (l.drop d) d=W) (fun d=>slots [(0,LS 4 aEn En.o l),(1, .fn (.func 172) [] [.cp c0 0]),(7,ib l.length),(8,ib d)] 19) (fun d=>zaj []) 0 ⟨Nat.zero_le _,hW⟩ ?_ ?_
 ·(refine Weak.of [] [] rfl rfl ?_ ?_<;>(repeat' first|exact zT|refine zA ?_ ?_)<;>(conv=>whnf)<;>(repeat'(exact rfl))<;>((intro _ _;rfl)))
 ·clear hW;rintro d ⟨hd,hW⟩
  conv=>whnf
  refine KIf.dec (fun h=> ?_) (fun h=> ?_)
  ·have hlt:d<l.length:=by omega
   have hp:=hP _ (at_mem En.o l d hlt);rw[drop_at En.o l d hlt] at hW;unfold ixL at hW;cases hx:P (at_ En.o l d)
   ·rw[if_neg (by simp[hx])] at hW;rw[hx] at hp
    (conv=>whnf);repeat(first|refine KIf.f rfl ?_|refine Need.mk ?_ ?_;(first|omega|(constructor<;>omega))|refine KCall.pure (hp) ?_);conv=>whnf
    refine⟨d+1,⟨by omega,hW⟩,by dsimp only;omega,?_⟩
    (refine Weak.of [] [] rfl rfl ?_ ?_<;>(repeat' first|exact zT|refine zA ?_ ?_)<;>(conv=>whnf)<;>(repeat'(exact rfl))<;>((intro _ _;rfl)))
   ·rw[if_pos hx] at hW;rw[hx] at hp
    (conv=>whnf);repeat(first|refine KIf.t rfl ?_|refine Need.mk ?_ ?_;omega|refine KCall.pure (hp) ?_);conv=>whnf
    refine .z [] ?_;rw[←hW];exact zaa rfl
  ·have hde:d=l.length:=by omega
   rw[hde,List.drop_length] at hW
   conv=>whnf
   refine .z [] ?_;rw[←hW];exact zaa rfl
theorem ContainsF_en_172 (c0:List AV) (P:En→Bool) (l:List En) (hl:l.length≤100000) (hP:∀x∈l,PureC Tryz.prog 172 [.agg (aEn x), .cp c0 0] (bb (P x))):PureC Tryz.prog 171 [LS 4 aEn En.o l, .fn (.func 172) [] [.cp c0 0]] (bb (l.any P)):=by
 rw[←zds P l 0];refine PureC.of kmix rfl ?_
 (conv=>whnf);repeat((refine KCall.pure (IndexF_en_172 c0 P l hl hP) ?_;conv=>whnf))
 refine .z [] ?_;exact zaa rfl
theorem IndexF_en_178 (c0:List AV) (P:En→Bool) (l:List En) (hl:l.length≤100000) (hP:∀x∈l,PureC Tryz.prog 178 [.agg (aEn x), .cp c0 0] (bb (P x))):PureC Tryz.prog 177 [LS 4 aEn En.o l, .fn (.func 178) [] [.cp c0 0]] (ib (ixL P l 0)):=by
 obtain⟨W,hW⟩:∃W,ixL P l 0=W:=⟨_,rfl⟩
 rw[hW];have hW:ixL P (l.drop 0) 0=W:=hW;refine PureC.of kmix rfl ?_
 conv=>whnf
 refine WLoop.inv kmix (D:=Nat) (fun d=>l.length-d) (fun d=>d≤l.length∧ixL P (l.drop d) d=W) (fun d=>slots [(0,LS 4 aEn En.o l),(1, .fn (.func 178) [] [.cp c0 0]),(7,ib l.length),(8,ib d)] 19) (fun d=>zaj []) 0 ⟨Nat.zero_le _,hW⟩ ?_ ?_
 ·(refine Weak.of [] [] rfl rfl ?_ ?_<;>(repeat' first|exact zT|refine zA ?_ ?_)<;>(conv=>whnf)<;>(repeat'(exact rfl))<;>((intro _ _;rfl)))
 ·clear hW;rintro d ⟨hd,hW⟩
  conv=>whnf
  refine KIf.dec (fun h=> ?_) (fun h=> ?_)
  ·have hlt:d<l.length:=by omega
   have hp:=hP _ (at_mem En.o l d hlt);rw[drop_at En.o l d hlt] at hW;unfold ixL at hW;cases hx:P (at_ En.o l d)
   ·rw[if_neg (by simp[hx])] at hW;rw[hx] at hp
    (conv=>whnf);repeat(first|refine KIf.f rfl ?_|refine Need.mk ?_ ?_;(first|omega|(constructor<;>omega))|refine KCall.pure (hp) ?_);conv=>whnf
    refine⟨d+1,⟨by omega,hW⟩,by dsimp only;omega,?_⟩
    (refine Weak.of [] [] rfl rfl ?_ ?_<;>(repeat' first|exact zT|refine zA ?_ ?_)<;>(conv=>whnf)<;>(repeat'(exact rfl))<;>((intro _ _;rfl)))
   ·rw[if_pos hx] at hW;rw[hx] at hp
    (conv=>whnf);repeat(first|refine KIf.t rfl ?_|refine Need.mk ?_ ?_;omega|refine KCall.pure (hp) ?_);conv=>whnf
    refine .z [] ?_;rw[←hW];exact zaa rfl
  ·have hde:d=l.length:=by omega
   rw[hde,List.drop_length] at hW
   conv=>whnf
   refine .z [] ?_;rw[←hW];exact zaa rfl
theorem IndexF_en_183 (c0:List AV) (P:En→Bool) (l:List En) (hl:l.length≤100000) (hP:∀x∈l,PureC Tryz.prog 183 [.agg (aEn x), .cp c0 0] (bb (P x))):PureC Tryz.prog 177 [LS 4 aEn En.o l, .fn (.func 183) [] [.cp c0 0]] (ib (ixL P l 0)):=by
 obtain⟨W,hW⟩:∃W,ixL P l 0=W:=⟨_,rfl⟩
 rw[hW];have hW:ixL P (l.drop 0) 0=W:=hW;refine PureC.of kmix rfl ?_
 conv=>whnf
 refine WLoop.inv kmix (D:=Nat) (fun d=>l.length-d) (fun d=>d≤l.length∧ixL P (l.drop d) d=W) (fun d=>slots [(0,LS 4 aEn En.o l),(1, .fn (.func 183) [] [.cp c0 0]),(7,ib l.length),(8,ib d)] 19) (fun d=>zaj []) 0 ⟨Nat.zero_le _,hW⟩ ?_ ?_
 ·(refine Weak.of [] [] rfl rfl ?_ ?_<;>(repeat' first|exact zT|refine zA ?_ ?_)<;>(conv=>whnf)<;>(repeat'(exact rfl))<;>((intro _ _;rfl)))
 ·clear hW;rintro d ⟨hd,hW⟩
  conv=>whnf
  refine KIf.dec (fun h=> ?_) (fun h=> ?_)
  ·have hlt:d<l.length:=by omega
   have hp:=hP _ (at_mem En.o l d hlt);rw[drop_at En.o l d hlt] at hW;unfold ixL at hW;cases hx:P (at_ En.o l d)
   ·rw[if_neg (by simp[hx])] at hW;rw[hx] at hp
    (conv=>whnf);repeat(first|refine KIf.f rfl ?_|refine Need.mk ?_ ?_;(first|omega|(constructor<;>omega))|refine KCall.pure (hp) ?_);conv=>whnf
    refine⟨d+1,⟨by omega,hW⟩,by dsimp only;omega,?_⟩
    (refine Weak.of [] [] rfl rfl ?_ ?_<;>(repeat' first|exact zT|refine zA ?_ ?_)<;>(conv=>whnf)<;>(repeat'(exact rfl))<;>((intro _ _;rfl)))
   ·rw[if_pos hx] at hW;rw[hx] at hp
    (conv=>whnf);repeat(first|refine KIf.t rfl ?_|refine Need.mk ?_ ?_;omega|refine KCall.pure (hp) ?_);conv=>whnf
    refine .z [] ?_;rw[←hW];exact zaa rfl
  ·have hde:d=l.length:=by omega
   rw[hde,List.drop_length] at hW
   conv=>whnf
   refine .z [] ?_;rw[←hW];exact zaa rfl
theorem ContainsF_en_183 (c0:List AV) (P:En→Bool) (l:List En) (hl:l.length≤100000) (hP:∀x∈l,PureC Tryz.prog 183 [.agg (aEn x), .cp c0 0] (bb (P x))):PureC Tryz.prog 171 [LS 4 aEn En.o l, .fn (.func 183) [] [.cp c0 0]] (bb (l.any P)):=by
 rw[←zds P l 0];refine PureC.of kmix rfl ?_
 (conv=>whnf);repeat((refine KCall.pure (IndexF_en_183 c0 P l hl hP) ?_;conv=>whnf))
 refine .z [] ?_;exact zaa rfl
theorem ze9 (c0 c1:List AV) (P:En→Bool) (l:List En) (hl:l.length≤100000) (hP:∀x∈l,PureC Tryz.prog 181 [.agg (aEn x), .cp c0 0, .cp c1 0] (bb (P x))):PureC Tryz.prog 177 [LS 4 aEn En.o l, .fn (.func 181) [] [.cp c0 0, .cp c1 0]] (ib (ixL P l 0)):=by
 obtain⟨W,hW⟩:∃W,ixL P l 0=W:=⟨_,rfl⟩
 rw[hW];have hW:ixL P (l.drop 0) 0=W:=hW;refine PureC.of kmix rfl ?_
 conv=>whnf
 refine WLoop.inv kmix (D:=Nat) (fun d=>l.length-d) (fun d=>d≤l.length∧ixL P (l.drop d) d=W) (fun d=>slots [(0,LS 4 aEn En.o l),(1, .fn (.func 181) [] [.cp c0 0, .cp c1 0]),(7,ib l.length),(8,ib d)] 19) (fun d=>zaj []) 0 ⟨Nat.zero_le _,hW⟩ ?_ ?_
 ·(refine Weak.of [] [] rfl rfl ?_ ?_<;>(repeat' first|exact zT|refine zA ?_ ?_)<;>(conv=>whnf)<;>(repeat'(exact rfl))<;>((intro _ _;rfl)))
 ·clear hW;rintro d ⟨hd,hW⟩
  conv=>whnf
  refine KIf.dec (fun h=> ?_) (fun h=> ?_)
  ·have hlt:d<l.length:=by omega
   have hp:=hP _ (at_mem En.o l d hlt);rw[drop_at En.o l d hlt] at hW;unfold ixL at hW;cases hx:P (at_ En.o l d)
   ·rw[if_neg (by simp[hx])] at hW;rw[hx] at hp
    (conv=>whnf);repeat(first|refine KIf.f rfl ?_|refine Need.mk ?_ ?_;(first|omega|(constructor<;>omega))|refine KCall.pure (hp) ?_);conv=>whnf
    refine⟨d+1,⟨by omega,hW⟩,by dsimp only;omega,?_⟩
    (refine Weak.of [] [] rfl rfl ?_ ?_<;>(repeat' first|exact zT|refine zA ?_ ?_)<;>(conv=>whnf)<;>(repeat'(exact rfl))<;>((intro _ _;rfl)))
   ·rw[if_pos hx] at hW;rw[hx] at hp
    (conv=>whnf);repeat(first|refine KIf.t rfl ?_|refine Need.mk ?_ ?_;omega|refine KCall.pure (hp) ?_);conv=>whnf
    refine .z [] ?_;rw[←hW];exact zaa rfl
  ·have hde:d=l.length:=by omega
   rw[hde,List.drop_length] at hW
   conv=>whnf
   refine .z [] ?_;rw[←hW];exact zaa rfl
theorem IndexF_nm_176 (c0:List AV) (P:Nm→Bool) (l:List Nm) (hl:l.length≤100000) (hP:∀x∈l,PureC Tryz.prog 176 [.agg (aNm x), .cp c0 0] (bb (P x))):PureC Tryz.prog 203 [LS 3 aNm Nm.o l, .fn (.func 176) [] [.cp c0 0]] (ib (ixL P l 0)):=by
 obtain⟨W,hW⟩:∃W,ixL P l 0=W:=⟨_,rfl⟩
 rw[hW];have hW:ixL P (l.drop 0) 0=W:=hW;refine PureC.of kmix rfl ?_
 conv=>whnf
 refine WLoop.inv kmix (D:=Nat) (fun d=>l.length-d) (fun d=>d≤l.length∧ixL P (l.drop d) d=W) (fun d=>slots [(0,LS 3 aNm Nm.o l),(1, .fn (.func 176) [] [.cp c0 0]),(7,ib l.length),(8,ib d)] 19) (fun d=>zaj []) 0 ⟨Nat.zero_le _,hW⟩ ?_ ?_
 ·(refine Weak.of [] [] rfl rfl ?_ ?_<;>(repeat' first|exact zT|refine zA ?_ ?_)<;>(conv=>whnf)<;>(repeat'(exact rfl))<;>((intro _ _;rfl)))
 ·clear hW;rintro d ⟨hd,hW⟩
  conv=>whnf
  refine KIf.dec (fun h=> ?_) (fun h=> ?_)
  ·have hlt:d<l.length:=by omega
   have hp:=hP _ (at_mem Nm.o l d hlt);rw[drop_at Nm.o l d hlt] at hW;unfold ixL at hW;cases hx:P (at_ Nm.o l d)
   ·rw[if_neg (by simp[hx])] at hW;rw[hx] at hp
    (conv=>whnf);repeat(first|refine KIf.f rfl ?_|refine Need.mk ?_ ?_;(first|omega|(constructor<;>omega))|refine KCall.pure (hp) ?_);conv=>whnf
    refine⟨d+1,⟨by omega,hW⟩,by dsimp only;omega,?_⟩
    (refine Weak.of [] [] rfl rfl ?_ ?_<;>(repeat' first|exact zT|refine zA ?_ ?_)<;>(conv=>whnf)<;>(repeat'(exact rfl))<;>((intro _ _;rfl)))
   ·rw[if_pos hx] at hW;rw[hx] at hp
    (conv=>whnf);repeat(first|refine KIf.t rfl ?_|refine Need.mk ?_ ?_;omega|refine KCall.pure (hp) ?_);conv=>whnf
    refine .z [] ?_;rw[←hW];exact zaa rfl
  ·have hde:d=l.length:=by omega
   rw[hde,List.drop_length] at hW
   conv=>whnf
   refine .z [] ?_;rw[←hW];exact zaa rfl
theorem ContainsF_nm_176 (c0:List AV) (P:Nm→Bool) (l:List Nm) (hl:l.length≤100000) (hP:∀x∈l,PureC Tryz.prog 176 [.agg (aNm x), .cp c0 0] (bb (P x))):PureC Tryz.prog 175 [LS 3 aNm Nm.o l, .fn (.func 176) [] [.cp c0 0]] (bb (l.any P)):=by
 rw[←zds P l 0];refine PureC.of kmix rfl ?_
 (conv=>whnf);repeat((refine KCall.pure (IndexF_nm_176 c0 P l hl hP) ?_;conv=>whnf))
 refine .z [] ?_;exact zaa rfl
theorem Index_nm (l:List Nm) (x:Nm) (hl:l.length≤100000):PureC Tryz.prog 179 [LS 3 aNm Nm.o l, .agg (aNm x)] (ib (ixL (fun y=>decide (x=y)) l 0)):=by
 obtain⟨W,hW⟩:∃W,ixL (fun y=>decide (x=y)) l 0=W:=⟨_,rfl⟩
 rw[hW];have hW:ixL (fun y=>decide (x=y)) (l.drop 0) 0=W:=hW;refine PureC.of kmix rfl ?_
 conv=>whnf
 refine WLoop.inv kmix (D:=Nat) (fun d=>l.length-d) (fun d=>d≤l.length∧ixL (fun y=>decide (x=y)) (l.drop d) d=W) (fun d=>slots [(0,LS 3 aNm Nm.o l),(3, .ptr 0 0),(7,ib l.length),(8,ib d)] 19) (fun d=>zaj [.row (aNm x) 71 0]) 0 ⟨Nat.zero_le _,hW⟩ ?_ ?_
 ·(refine Weak.of [0] [] rfl rfl ?_ ?_<;>(repeat' first|exact zT|refine zA ?_ ?_)<;>(conv=>whnf)<;>(repeat'(exact rfl))<;>(first|(intro _ _;rfl)|(exact Or.inr ⟨rfl,rfl⟩)))
 ·clear hW;rintro d ⟨hd,hW⟩
  conv=>whnf
  refine KIf.dec (fun h=> ?_) (fun h=> ?_)
  ·have hlt:d<l.length:=by omega
   rw[drop_at Nm.o l d hlt] at hW;unfold ixL at hW;by_cases hx:x=at_ Nm.o l d
   ·rw[if_pos (by simp[hx])] at hW
    (conv=>whnf);repeat(first|refine EqK.of (zmV x (at_ Nm.o l d)) ?_|refine KIf.t (decide_eq_true hx) ?_|refine Need.mk (p:=zah _=true) ?_ ?_;decide+kernel|refine Need.mk ?_ ?_;omega);conv=>whnf
    refine .z [] ?_;rw[←hW];exact zaa rfl
   ·rw[if_neg (by simp[hx])] at hW
    (conv=>whnf);repeat(first|refine EqK.of (zmV x (at_ Nm.o l d)) ?_|refine KIf.f (decide_eq_false hx) ?_|refine Need.mk (p:=zah _=true) ?_ ?_;decide+kernel|refine Need.mk ?_ ?_;(first|omega|(constructor<;>omega)));conv=>whnf
    refine⟨d+1,⟨by omega,hW⟩,by dsimp only;omega,?_⟩
    (refine Weak.of [0] [] rfl rfl ?_ ?_<;>(repeat' first|exact zT|refine zA ?_ ?_)<;>(conv=>whnf)<;>(repeat'(exact rfl))<;>(first|(intro _ _;rfl)|(exact Or.inr ⟨rfl,rfl⟩)))
  ·have hde:d=l.length:=by omega
   rw[hde,List.drop_length] at hW
   conv=>whnf
   refine .z [] ?_;rw[←hW];exact zaa rfl
theorem zcq (l:List Nm) (x:Nm) (hl:l.length≤100000):PureC Tryz.prog 152 [LS 3 aNm Nm.o l, .agg (aNm x)] (bb (l.contains x)):=by
 have hc:l.contains x=decide (0≤ixL (fun y=>decide (x=y)) l 0):=by
  rw[zds,List.contains_eq_any_beq];rfl
 rw[hc];refine PureC.of kmix rfl ?_
 (conv=>whnf);repeat((refine KCall.pure (Index_nm l x hl) ?_;conv=>whnf))
 refine .z [] ?_;exact zaa rfl
end Go.Proofs.YtgcjejajljhnaaaGreatDoor
namespace Ck
open Go Go.Ex
def NmOk (n:List UInt8):Prop:=n.length≤100000
theorem zmI (n:List UInt8):∀(l:List En) (i:Nat),ixL (fun x=>same x.n n) l i=match ixE n l with|none=> -1|some k=>((i+k:Nat):Int)
 |[],i=>rfl
 |x::l,i=>by
  unfold ixL ixE;by_cases h:same x.n n=true
  ·rw[if_pos h,if_pos h];rfl
  ·rw[if_neg h,if_neg h,zmI n l (i+1)]
   cases ixE n l with
   |none=>rfl
   |some k=>show((i+1+k:Nat):Int)=((i+(k+1):Nat):Int);omega
theorem zmH {n:List UInt8}:∀{l:List En} {k:Nat},ixE n l=some k→k<l.length
 |[],k,h=>by cases h
 |x::l,k,h=>by
  unfold ixE at h;split at h
  ·cases h;simp
  ·cases h2:ixE n l with
   |none=>rw[h2] at h;cases h
   |some j=>rw[h2] at h;cases h;have:=zmH h2;simp;omega
structure NaOk (v:Pt):Prop where
 rs:v.rs.length≤96
 ns:∀x∈v.rs,x.ns.length≤1000∧∀n∈x.ns,NmOk n.n
 es:∀x∈v.rs,x.es.length≤1000∧∀e∈x.es,NmOk e.n
theorem NaOk.ns_at {v:Pt} (h:NaOk v) (i:Nat):(at_ Rc.o v.rs i).ns.length≤1000∧∀n∈(at_ Rc.o v.rs i).ns,NmOk n.n:=ze4 (P:=fun x:Rc=>x.ns.length≤1000∧∀n∈x.ns,NmOk n.n) ⟨Nat.zero_le _,fun _ h=>(by cases h)⟩ h.ns i
theorem NaOk.es_at {v:Pt} (h:NaOk v) (i:Nat):(at_ Rc.o v.rs i).es.length≤1000∧∀n∈(at_ Rc.o v.rs i).es,NmOk n.n:=ze4 (P:=fun x:Rc=>x.es.length≤1000∧∀n∈x.es,NmOk n.n) ⟨Nat.zero_le _,fun _ h=>(by cases h)⟩ h.es i
end Ck
namespace Go.Proofs.YtgcjejajljhnaaaGreatDoor
open Go.Ex Ck
set_option maxRecDepth 100000
set_option maxHeartbeats 4000000
theorem isEntry1_k (x y:En) (hx:NmOk x.n) (hy:NmOk y.n):PureC Tryz.prog 172 [.agg (aEn y), .cp (aEn x) 0] (bb (Ck.same x.n y.n)):=by
 refine PureC.of kmix rfl ?_
 (conv=>whnf);repeat((refine KCall.pure (zkR x.n y.n hx hy) ?_;conv=>whnf))
 refine .z [] ?_;exact zaa rfl
theorem isName2_k (x:En) (n:Nm) (hx:NmOk x.n) (hy:NmOk n.n):PureC Tryz.prog 178 [.agg (aEn x), .cp (aNm n) 0] (bb (Ck.same x.n n.n)):=by
 refine PureC.of kmix rfl ?_
 (conv=>whnf);repeat((refine KCall.pure (zkR x.n n.n hx hy) ?_;conv=>whnf))
 refine .z [] ?_;exact zaa rfl
theorem bring1_k (x:En) (n:List UInt8) (hx:NmOk x.n) (hy:NmOk n):PureC Tryz.prog 183 [.agg (aEn x), .cp [tb n] 0] (bb (Ck.same x.n n)):=by
 refine PureC.of kmix rfl ?_
 (conv=>whnf);repeat((refine KCall.pure (zkR x.n n hx hy) ?_;conv=>whnf))
 refine .z [] ?_;exact zaa rfl
theorem isName1_k (y n:Nm) (hy:NmOk y.n) (hn:NmOk n.n):PureC Tryz.prog 176 [.agg (aNm y), .cp (aNm n) 0] (bb (decide (y.d=n.d)&&Ck.same y.n n.n)):=by
 refine PureC.of kmix rfl ?_;by_cases h:y.d=n.d
 ·rw[decide_eq_true h]
  (conv=>whnf);repeat(first|refine EqK.of (zaY y.d n.d) ?_|refine KIf.t (decide_eq_true h) ?_|refine KCall.pure (zkR y.n n.n hy hn) ?_);conv=>whnf
  refine .z [] ?_;exact zaa rfl
 ·rw[decide_eq_false h]
  (conv=>whnf);repeat(first|refine EqK.of (zaY y.d n.d) ?_|refine KIf.f (decide_eq_false h) ?_);conv=>whnf
  refine .z [] ?_;exact zaa rfl
theorem zks (x:En) (o:Ref) (n:Nm):PureC Tryz.prog 181 [.agg (aEn x), .cp (aRef o) 0, .cp (aNm n) 0] (bb (decide (x.f=o)&&decide (x.n=n.n))):=by
 refine PureC.of kmix rfl ?_;by_cases h:x.f=o
 ·rw[decide_eq_true h]
  (conv=>whnf);repeat(first|refine EqK.of (zaY x.f o) ?_|refine KIf.t (decide_eq_true h) ?_);conv=>whnf
  refine .z [] ?_;exact zaa rfl
 ·rw[decide_eq_false h]
  (conv=>whnf);repeat(first|refine EqK.of (zaY x.f o) ?_|refine KIf.f (decide_eq_false h) ?_);conv=>whnf
  refine .z [] ?_;exact zaa rfl
theorem zhh (p:Ck.Rp) (i:Nat) (hi:i<p.v.rs.length) (hn:p.v.rs.length≤96):PureC Tryz.prog 174 [.cp (pC p) 0,ib (i:Nat)] (.agg (aRef (p.ref i))):=by
 have hi0:(0:Int)≤(i:Nat)∧((i:Nat):Int)<(p.v.rs.length:Nat):=⟨by omega,by omega⟩
 have e:p.ref i=⟨i,(at_ Rc.o p.v.rs i).q⟩:=by unfold Rp.ref;rw[zae]
 rw[e];refine PureC.of kmix rfl ?_
 (conv=>whnf);repeat((refine Need.mk ?_ ?_;exact hi0;conv=>whnf))
 refine .z [] ?_;exact zaa rfl
theorem znT (d:Int):PureC Tryz.prog 91 [ib d] (ib (most d:Nat)):=by
 refine PureC.of kmix rfl ?_;unfold most;by_cases h:d=5
 ·rw[if_pos h]
  (conv=>whnf);repeat((refine KIf.dt ?_ ?_;assumption;conv=>whnf))
  refine .z [] ?_;exact zaa rfl
 ·rw[if_neg h]
  (conv=>whnf);repeat((refine KIf.df ?_ ?_;assumption;conv=>whnf))
  refine .z [] ?_;exact zaa rfl
end Go.Proofs.YtgcjejajljhnaaaGreatDoor
namespace Ck
open Go Go.Ex
theorem zm1 {h:T AO} {z:List Nat} {cs:List AV} {b:Nat} {e:TypeId} {q:Nat} (hr:h.get b=some (.row cs e q)) (hz:b∈z) (hc:Wzl h z cs cs):Wz h z (.cp cs 0) (.ptr b 0):=by
 unfold Wz;exact⟨rfl,hz,cs,e,q,hr,Nat.le_refl _,by rw[List.take_length];exact hc⟩
theorem zb6 {h:T AO} {z:List Nat} {g:Nat} {cs:List AV} {b:Nat} {e:TypeId} {q:Nat} (hr:h.get b=some (.row cs e q)) (hz:b∈z) (hc:Wzl h z cs cs):Wz h z (.fn (.func g) [] [.cp cs 0]) (.fn (.func g) [] [.ptr b 0]):=by
 unfold Wz;exact⟨rfl,Wzn,Wzc (zm1 hr hz hc) Wzn⟩
theorem zmP {h:T AO} {z:List Nat} {g:Nat} {cs cs':List AV} {b b':Nat} {e e':TypeId} {q q':Nat} (hr:h.get b=some (.row cs e q)) (hz:b∈z) (hc:Wzl h z cs cs) (hr':h.get b'=some (.row cs' e' q')) (hz':b'∈z) (hc':Wzl h z cs' cs'):Wz h z (.fn (.func g) [] [.cp cs 0, .cp cs' 0]) (.fn (.func g) [] [.ptr b 0, .ptr b' 0]):=by
 unfold Wz;exact⟨rfl,Wzn,Wzc (zm1 hr hz hc) (Wzc (zm1 hr' hz' hc') Wzn)⟩
theorem znf {h:T AO} {z:List Nat} (x:En):Wzl h z (aEn x) (aEn x):=Wzc (zaa rfl) (Wzc (zaa rfl) (Wzc (zaa rfl) (Wzc (zaa rfl) Wzn)))
theorem zbo {h:T AO} {z:List Nat} (x:Nm):Wzl h z (aNm x) (aNm x):=Wzc (zaa rfl) (Wzc (zaa rfl) (Wzc (zaa rfl) Wzn))
theorem zgh {h:T AO} {z:List Nat} (x:Ref):Wzl h z (aRef x) (aRef x):=Wzc (zaa rfl) (Wzc (zaa rfl) Wzn)
theorem zl5 {h:T AO} {z:List Nat} (x:List UInt8):Wzl h z [tb x] [tb x]:=Wzc (zaa rfl) Wzn
theorem rx_r {v:Pt} {r:Ref} (h:right v r=true):rx v r=rc v r.r:=by
 unfold right at h;simp only[Bool.and_eq_true] at h;exact if_pos h.1.1
end Ck
namespace Go.Proofs.YtgcjejajljhnaaaGreatDoor
open Go.Ex Ck
set_option maxRecDepth 100000
set_option maxHeartbeats 4000000
theorem zkU (v:Pt) (r:Ref) (hn:v.rs.length≤100000) {b:Bool} (h:Ck.right v r=b):PureC Tryz.prog 101 [aPts v, .agg (aRef r)] (.tup [aRcs (rx v r),bb b]):=by
 have:=zj6 v r hn;rw[h] at this;exact this
theorem zjz (p:Ck.Rp) (d:Nat) (before:List En) (x:En) (hn:NaOk p.v) (hd:d<p.v.rs.length) (hx:NmOk x.n) (hbl:before.length≤1000) (hbn:∀e∈before,NmOk e.n):PureC Tryz.prog 148 [.cp (pC p) 0,ib (d:Nat),LS 4 aEn En.o before, .agg (aEn x)] (bb (Ck.isEntry p d before x)):=by
 have hcon:=ContainsF_en_172 (aEn x) (fun y=>Ck.same x.n y.n) before (by omega) (fun y hy=>isEntry1_k x y hx (hbn y hy))
 obtain⟨b1,hb1⟩:∃b,before.any (fun y=>Ck.same x.n y.n)=b:=⟨_,rfl⟩
 rw[hb1] at hcon
 have hn96:p.v.rs.length≤100000:=by have:=hn.rs;omega
 obtain⟨b2,hb2⟩:∃b,Ck.right p.v x.f=b:=⟨_,rfl⟩
 have hri:=zkU p.v x.f hn96 hb2
 have hrl:(rx p.v x.f).ns.length≤100000:=by
  unfold rx;split
  ·have:=(hn.ns_at x.f.r.toNat).1;unfold Ck.rc;omega
  ·exact Nat.zero_le _
 unfold Ck.isEntry;rw[hb1,hb2];refine PureC.of kmix rfl ?_;cases b1
 ·(conv=>whnf);repeat(first|refine KCall.lend ([0]) (hcon) rfl ?_ ?_;exact Wzc (zaa rfl) (Wzc (zb6 rfl (List.mem_singleton.2 rfl) (znf x)) Wzn)|refine DCall.pure (hri) ?_|refine DCall.pure (zhh p d hd hn.rs) ?_|refine KIf.f rfl ?_|refine Need.mk (p:=zah _=true) ?_ ?_;decide+kernel);conv=>whnf
  cases b2
  ·(conv=>whnf);repeat(((refine KIf.f rfl ?_;conv=>whnf)))
   refine .z [] ?_;exact zaa rfl
  ·have hrc:p.rc x.f.r=rx p.v x.f:=(rx_r hb2).symm;rw[hrc];have hct:=zcq (rx p.v x.f).ns ⟨p.ref d,x.n⟩ hrl
   obtain⟨b3,hb3⟩:∃b,(rx p.v x.f).ns.contains ⟨p.ref d,x.n⟩=b:=⟨_,rfl⟩
   rw[hb3] at hct⊢;by_cases h16:16≤x.f.r
   ·rw[decide_eq_true h16]
    (conv=>whnf);repeat(first|refine KIf.t (decide_eq_true h16) ?_|refine KCall.pure (hct) ?_|refine KIf.t rfl ?_);conv=>whnf
    refine .z [] ?_;exact zaa rfl
   ·rw[decide_eq_false h16]
    (conv=>whnf);repeat(first|refine KIf.f (decide_eq_false h16) ?_|refine KIf.t rfl ?_);conv=>whnf
    refine .z [] ?_;exact zaa rfl
 ·(conv=>whnf);repeat(first|refine KCall.lend ([0]) (hcon) rfl ?_ ?_;exact Wzc (zaa rfl) (Wzc (zb6 rfl (List.mem_singleton.2 rfl) (znf x)) Wzn)|refine KIf.t rfl ?_);conv=>whnf
  refine .z [] ?_;exact zaa rfl
theorem zln (p:Ck.Rp) (r:Nat) (before:List Nm) (n:Nm) (hn:NaOk p.v) (hd:r<p.v.rs.length) (hx:NmOk n.n) (hbl:before.length≤1000) (hbn:∀e∈before,NmOk e.n):PureC Tryz.prog 151 [.cp (pC p) 0,ib (r:Nat),LS 3 aNm Nm.o before, .agg (aNm n)] (.tup [bb (Ck.isName p r before n).1,bb (Ck.isName p r before n).2]):=by
 have hcon:=ContainsF_nm_176 (aNm n) (fun y=>decide (y.d=n.d)&&Ck.same y.n n.n) before (by omega) (fun y hy=>isName1_k y n (hbn y hy) hx)
 obtain⟨b1,hb1⟩:∃b,before.any (fun y=>decide (y.d=n.d)&&Ck.same y.n n.n)=b:=⟨_,rfl⟩
 rw[hb1] at hcon
 have hn96:p.v.rs.length≤100000:=by have:=hn.rs;omega
 have hd0:(0:Int)≤(r:Nat)∧((r:Nat):Int)<(p.v.rs.length:Nat):=⟨by omega,by omega⟩
 obtain⟨b2,hb2⟩:∃b,Ck.right p.v n.d=b:=⟨_,rfl⟩
 have hri:=zkU p.v n.d hn96 hb2
 have hrl:(rx p.v n.d).es.length≤1000∧∀e∈(rx p.v n.d).es,NmOk e.n:=by
  unfold rx;split
  ·exact hn.es_at n.d.r.toNat
  ·exact⟨Nat.zero_le _,fun _ h=>(by cases h)⟩
 obtain⟨x,hxr⟩:∃x,rx p.v n.d=x:=⟨_,rfl⟩
 rw[hxr] at hrl hri;have hix:=IndexF_en_178 (aNm n) (fun y=>Ck.same y.n n.n) x.es (by omega) (fun y hy=>isName2_k y n (hrl.2 y hy) hx);rw[zmI n.n x.es 0] at hix
 have hlend:∀{h:T AO} {z:List Nat} {b:Nat} {e:TypeId} {q:Nat},h.get b=some (.row (aNm n) e q)→b∈z→Wz h z (.fn (.func 176) [] [.cp (aNm n) 0]) (.fn (.func 176) [] [.ptr b 0]):=fun hr hz=>zb6 hr hz (zbo n)
 obtain⟨R,hR⟩:∃R,Ck.isName p r before n=R:=⟨_,rfl⟩
 rw[hR]
 have hG:R=if(b2&&(p.rc n.d.r).k==0)=true then(if b1=true then(false,false) else if before≠[]∧(p.rc r).k≠1 then(false,false) else match ixE n.n (p.rc n.d.r).es with|none=>(decide ((p.rc n.d.r).es.length<most n.d.r),false)|some k=>(decide ((at_ En.o (p.rc n.d.r).es k).f=p.ref r∧(at_ En.o (p.rc n.d.r).es k).n=n.n),true)) else(false,false):=by
  rw[←hR];unfold Ck.isName;rw[hb1,hb2];rfl
 refine PureC.of kmix rfl ?_
 (conv=>whnf);repeat(first|refine DCall.pure (hri) ?_|refine Need.mk (p:=zah _=true) ?_ ?_;decide+kernel);conv=>whnf
 cases b2
 ·replace hG:R=(false,false):=hG
  subst hG
  (conv=>whnf);repeat(((refine KIf.t rfl ?_;conv=>whnf)))
  (refine .z [] ?_;conv=>whnf);(repeat' first|exact zT|exact rfl|refine zA ?_ ?_)<;>(try(conv=>whnf))
 ·have hrc:p.rc n.d.r=x:=by rw[←hxr,rx_r hb2];rfl
  rw[hrc] at hG;by_cases hk:x.k=0
  ·have hkb:(x.k==0)=true:=by simp[hk]
   rw[hkb] at hG;cases b1
   ·replace hG:R=if before≠[]∧(p.rc r).k≠1 then(false,false) else match ixE n.n x.es with|none=>(decide (x.es.length<most n.d.r),false)|some k=>(decide ((at_ En.o x.es k).f=p.ref r∧(at_ En.o x.es k).n=n.n),true):=hG
    (conv=>whnf);repeat(first|refine KIf.f (congrArg Bool.not (decide_eq_true hk)) ?_|refine KCall.lend ([0]) (hcon) rfl ?_ ?_;exact Wzc (zaa rfl) (Wzc (zb6 rfl (List.mem_singleton.2 rfl) (zbo n)) Wzn)|refine KIf.f rfl ?_);conv=>whnf
    by_cases hbe:before=[]
    ·have hb0:¬(0:Int)<(before.length:Nat):=by rw[hbe];decide
     rw[if_neg (fun h=>h.1 hbe)] at hG
     cases hE:ixE n.n x.es with
     |none=>
      rw[hE] at hix hG
      replace hG:R=(decide (x.es.length<most n.d.r),false):=hG
      have hlt0:(-1:Int)<0:=by decide
      (conv=>whnf);repeat(first|refine KIf.f (decide_eq_false hb0) ?_|refine KCall.lend ([0]) (hix) rfl ?_ ?_;exact Wzc (zaa rfl) (Wzc (zb6 rfl (List.mem_singleton.2 rfl) (zbo n)) Wzn)|refine KIf.t (decide_eq_true hlt0) ?_|refine DCall.pure (znT _) ?_|refine KIf.f rfl ?_|refine Need.mk (p:=zah _=true) ?_ ?_;decide+kernel);conv=>whnf
      have e:decide (x.es.length<most n.d.r)=decide (((x.es.length:Nat):Int)<((most n.d.r:Nat):Int)):=decide_eq_decide.2 Int.ofNat_lt.symm;rw[e] at hG;subst hG
      (refine .z [] ?_;conv=>whnf);(repeat' first|exact zT|exact rfl|refine zA ?_ ?_)<;>(try(conv=>whnf))
     |some k=>
      rw[hE] at hix hG
      replace hG:R=(decide ((at_ En.o x.es k).f=p.ref r∧(at_ En.o x.es k).n=n.n),true):=hG
      have hkl:=zmH hE
      have hlt0:¬((0+k:Nat):Int)<0:=by omega
      have hk0:(0:Int)≤((0+k:Nat):Int)∧((0+k:Nat):Int)<(x.es.length:Nat):=by omega
      have hy2:at_ En.o x.es k=at_ En.o x.es (((0+k:Nat):Int)).toNat:=by rw[Int.toNat_natCast,Nat.zero_add]
      rw[hy2] at hG;by_cases hf:(at_ En.o x.es (((0+k:Nat):Int)).toNat).f=p.ref r
      ·by_cases hnn:(at_ En.o x.es (((0+k:Nat):Int)).toNat).n=n.n
       ·(conv=>whnf);repeat(first|refine KIf.f (decide_eq_false hb0) ?_|refine KCall.lend ([0]) (hix) rfl ?_ ?_;exact Wzc (zaa rfl) (Wzc (zb6 rfl (List.mem_singleton.2 rfl) (zbo n)) Wzn)|refine KIf.f (decide_eq_false hlt0) ?_|refine Need.mk ?_ ?_;exact hk0|refine DCall.pure (zhh p r hd hn.rs) ?_|refine EqK.of (zaY (at_ En.o x.es (((0+k:Nat):Int)).toNat).f (p.ref r)) ?_|refine KIf.t (decide_eq_true hf) ?_|refine Need.mk (p:=zah _=true) ?_ ?_;decide+kernel);conv=>whnf
        rw[decide_eq_true ⟨hf,hnn⟩] at hG;subst hG
        (refine .z [] ?_;conv=>whnf);(repeat' first|exact zT|exact rfl|refine zA ?_ ?_)<;>(try(conv=>whnf))<;>((exact(decide_eq_true hnn).symm))
       ·(conv=>whnf);repeat(first|refine KIf.f (decide_eq_false hb0) ?_|refine KCall.lend ([0]) (hix) rfl ?_ ?_;exact Wzc (zaa rfl) (Wzc (zb6 rfl (List.mem_singleton.2 rfl) (zbo n)) Wzn)|refine KIf.f (decide_eq_false hlt0) ?_|refine Need.mk ?_ ?_;exact hk0|refine DCall.pure (zhh p r hd hn.rs) ?_|refine EqK.of (zaY (at_ En.o x.es (((0+k:Nat):Int)).toNat).f (p.ref r)) ?_|refine KIf.t (decide_eq_true hf) ?_|refine Need.mk (p:=zah _=true) ?_ ?_;decide+kernel);conv=>whnf
        rw[decide_eq_false (fun h=>hnn h.2)] at hG;subst hG
        (refine .z [] ?_;conv=>whnf);(repeat' first|exact zT|exact rfl|refine zA ?_ ?_)<;>(try(conv=>whnf))<;>((exact(decide_eq_false hnn).symm))
      ·(conv=>whnf);repeat(first|refine KIf.f (decide_eq_false hb0) ?_|refine KCall.lend ([0]) (hix) rfl ?_ ?_;exact Wzc (zaa rfl) (Wzc (zb6 rfl (List.mem_singleton.2 rfl) (zbo n)) Wzn)|refine KIf.f (decide_eq_false hlt0) ?_|refine Need.mk ?_ ?_;exact hk0|refine DCall.pure (zhh p r hd hn.rs) ?_|refine EqK.of (zaY (at_ En.o x.es (((0+k:Nat):Int)).toNat).f (p.ref r)) ?_|refine KIf.f (decide_eq_false hf) ?_|refine Need.mk (p:=zah _=true) ?_ ?_;decide+kernel);conv=>whnf
       rw[decide_eq_false (fun h=>hf h.1)] at hG;subst hG
       (refine .z [] ?_;conv=>whnf);(repeat' first|exact zT|exact rfl|refine zA ?_ ?_)<;>(try(conv=>whnf))
    ·have hb0:(0:Int)<(before.length:Nat):=by have:0<before.length:=List.length_pos_iff.2 hbe;omega
     by_cases hk1:(at_ Rc.o p.v.rs r).k=1
     ·rw[if_neg (fun h=>h.2 (by rw[zae];exact hk1))] at hG
      cases hE:ixE n.n x.es with
      |none=>
       rw[hE] at hix hG
       replace hG:R=(decide (x.es.length<most n.d.r),false):=hG
       have hlt0:(-1:Int)<0:=by decide
       (conv=>whnf);repeat(first|refine KIf.t (decide_eq_true hb0) ?_|refine Need.mk ?_ ?_;exact hd0|refine KIf.f (congrArg Bool.not (decide_eq_true hk1)) ?_|refine KCall.lend ([0]) (hix) rfl ?_ ?_;exact Wzc (zaa rfl) (Wzc (zb6 rfl (List.mem_singleton.2 rfl) (zbo n)) Wzn)|refine KIf.t (decide_eq_true hlt0) ?_|refine DCall.pure (znT _) ?_|refine Need.mk (p:=zah _=true) ?_ ?_;decide+kernel);conv=>whnf
       have e:decide (x.es.length<most n.d.r)=decide (((x.es.length:Nat):Int)<((most n.d.r:Nat):Int)):=decide_eq_decide.2 Int.ofNat_lt.symm;rw[e] at hG;subst hG
       (refine .z [] ?_;conv=>whnf);(repeat' first|exact zT|exact rfl|refine zA ?_ ?_)<;>(try(conv=>whnf))
      |some k=>
       rw[hE] at hix hG
       replace hG:R=(decide ((at_ En.o x.es k).f=p.ref r∧(at_ En.o x.es k).n=n.n),true):=hG
       have hkl:=zmH hE
       have hlt0:¬((0+k:Nat):Int)<0:=by omega
       have hk0:(0:Int)≤((0+k:Nat):Int)∧((0+k:Nat):Int)<(x.es.length:Nat):=by omega
       have hy2:at_ En.o x.es k=at_ En.o x.es (((0+k:Nat):Int)).toNat:=by rw[Int.toNat_natCast,Nat.zero_add]
       rw[hy2] at hG;by_cases hf:(at_ En.o x.es (((0+k:Nat):Int)).toNat).f=p.ref r
       ·by_cases hnn:(at_ En.o x.es (((0+k:Nat):Int)).toNat).n=n.n
        ·(conv=>whnf);repeat(first|refine KIf.t (decide_eq_true hb0) ?_|refine Need.mk ?_ ?_;exact hd0|refine KIf.f (congrArg Bool.not (decide_eq_true hk1)) ?_|refine KCall.lend ([0]) (hix) rfl ?_ ?_;exact Wzc (zaa rfl) (Wzc (zb6 rfl (List.mem_singleton.2 rfl) (zbo n)) Wzn)|refine KIf.f (decide_eq_false hlt0) ?_|refine Need.mk ?_ ?_;exact hk0|refine DCall.pure (zhh p r hd hn.rs) ?_|refine EqK.of (zaY (at_ En.o x.es (((0+k:Nat):Int)).toNat).f (p.ref r)) ?_|refine KIf.t (decide_eq_true hf) ?_|refine Need.mk (p:=zah _=true) ?_ ?_;decide+kernel);conv=>whnf
         rw[decide_eq_true ⟨hf,hnn⟩] at hG;subst hG
         (refine .z [] ?_;conv=>whnf);(repeat' first|exact zT|exact rfl|refine zA ?_ ?_)<;>(try(conv=>whnf))<;>((exact(decide_eq_true hnn).symm))
        ·(conv=>whnf);repeat(first|refine KIf.t (decide_eq_true hb0) ?_|refine Need.mk ?_ ?_;exact hd0|refine KIf.f (congrArg Bool.not (decide_eq_true hk1)) ?_|refine KCall.lend ([0]) (hix) rfl ?_ ?_;exact Wzc (zaa rfl) (Wzc (zb6 rfl (List.mem_singleton.2 rfl) (zbo n)) Wzn)|refine KIf.f (decide_eq_false hlt0) ?_|refine Need.mk ?_ ?_;exact hk0|refine DCall.pure (zhh p r hd hn.rs) ?_|refine EqK.of (zaY (at_ En.o x.es (((0+k:Nat):Int)).toNat).f (p.ref r)) ?_|refine KIf.t (decide_eq_true hf) ?_|refine Need.mk (p:=zah _=true) ?_ ?_;decide+kernel);conv=>whnf
         rw[decide_eq_false (fun h=>hnn h.2)] at hG;subst hG
         (refine .z [] ?_;conv=>whnf);(repeat' first|exact zT|exact rfl|refine zA ?_ ?_)<;>(try(conv=>whnf))<;>((exact(decide_eq_false hnn).symm))
       ·(conv=>whnf);repeat(first|refine KIf.t (decide_eq_true hb0) ?_|refine Need.mk ?_ ?_;exact hd0|refine KIf.f (congrArg Bool.not (decide_eq_true hk1)) ?_|refine KCall.lend ([0]) (hix) rfl ?_ ?_;exact Wzc (zaa rfl) (Wzc (zb6 rfl (List.mem_singleton.2 rfl) (zbo n)) Wzn)|refine KIf.f (decide_eq_false hlt0) ?_|refine Need.mk ?_ ?_;exact hk0|refine DCall.pure (zhh p r hd hn.rs) ?_|refine EqK.of (zaY (at_ En.o x.es (((0+k:Nat):Int)).toNat).f (p.ref r)) ?_|refine KIf.f (decide_eq_false hf) ?_|refine Need.mk (p:=zah _=true) ?_ ?_;decide+kernel);conv=>whnf
        rw[decide_eq_false (fun h=>hf h.1)] at hG;subst hG
        (refine .z [] ?_;conv=>whnf);(repeat' first|exact zT|exact rfl|refine zA ?_ ?_)<;>(try(conv=>whnf))
     ·rw[if_pos ⟨hbe,by rw[zae];exact hk1⟩] at hG;subst hG
      (conv=>whnf);repeat(first|refine KIf.t (decide_eq_true hb0) ?_|refine Need.mk ?_ ?_;exact hd0|refine KIf.t (congrArg Bool.not (decide_eq_false hk1)) ?_);conv=>whnf
      (refine .z [] ?_;conv=>whnf);(repeat' first|exact zT|exact rfl|refine zA ?_ ?_)<;>(try(conv=>whnf))
   ·replace hG:R=(false,false):=hG
    subst hG
    (conv=>whnf);repeat(first|refine KIf.f (congrArg Bool.not (decide_eq_true hk)) ?_|refine KCall.lend ([0]) (hcon) rfl ?_ ?_;exact Wzc (zaa rfl) (Wzc (zb6 rfl (List.mem_singleton.2 rfl) (zbo n)) Wzn)|refine KIf.t rfl ?_|refine KIf.f rfl ?_);conv=>whnf
    (refine .z [] ?_;conv=>whnf);(repeat' first|exact zT|exact rfl|refine zA ?_ ?_)<;>(try(conv=>whnf))
  ·have hkb:(x.k==0)=false:=by simp[hk]
   rw[hkb] at hG
   replace hG:R=(false,false):=hG
   subst hG
   (conv=>whnf);repeat(first|refine KIf.t (congrArg Bool.not (decide_eq_false hk)) ?_|refine KIf.f rfl ?_);conv=>whnf
   (refine .z [] ?_;conv=>whnf);(repeat' first|exact zT|exact rfl|refine zA ?_ ?_)<;>(try(conv=>whnf))
theorem desc_h (n:Nat) (ph:Bool) (p:Rp) (hf:Rf n p) (hn:n≤96) (hb:p.fd.length≤100000) (hds:0<p.v.ds.length∧p.v.ds.length≤100000):HG Tryz.prog 2 20 220 106 [.ptr 0 0] (gP ph p) [.row (pRow 20 1 p) 106 0, .row (flatI (rcP ph 20) 0 p.v.rs) 66 10] (.tup [])
  (gP ph (descriptors p)) [.row (pRow 20 1 (descriptors p)) 106 0, .row (flatI (rcP ph 20) 0 (descriptors p).v.rs) 66 10]:=by
 have hpn:p.v.rs.length=n:=hf.n
 have h96:p.v.rs.length≤96:=by omega
 subst hpn;refine HG.of kmix (by omega) ?_
 conv=>whnf
 refine WLoop.inv kmix (D:=Nat) (fun d=>p.v.rs.length-d) (fun d=>d≤p.v.rs.length) (fun d=>slots [(0, .ptr 0 0),(8, .so 1 0 p.v.rs.length 0),(9,ib p.v.rs.length),(10,ib d)] 47)
  (fun d=>zax 20 220 (gP ph (it zao p d)) [.row (pRow 20 1 (it zao p d)) 106 0, .row (flatI (rcP ph 20) 0 (it zao p d).v.rs) 66 10]) 0 (Nat.zero_le _) ?_ ?_
 ·(refine Weak.ofG [0,1] [] [] rfl rfl rfl rfl ?_ ?_ ?_ ?_;exact⟨pQ rfl rfl,rQ h96,trivial⟩;exact gQ;exact zN;(focus((repeat' first|exact zT|exact rfl|refine zA ?_ ?_))))
 ·intro d hd;obtain⟨h1,h2,h3,h4⟩:=zlG hf d hd;have hst:it zao p (d+1)=zao (it zao p d) d:=rfl
  have hfin:d=p.v.rs.length→it zao p d=descriptors p:=fun e=>by rw[e];rfl
  generalize it zao p d=q at*
  have hqn:q.v.rs.length=p.v.rs.length:=h1.n
  have hq96:q.v.rs.length≤96:=by omega
  have hqd:0<q.v.ds.length∧q.v.ds.length≤100000:=by rw[h4];exact hds
  have stay:∀{t:Tm} {s:St} {q':Ck.Rp},zao q d=q'→Weak 2 t s (slots [(0, .ptr 0 0),(8, .so 1 0 p.v.rs.length 0),(9,ib p.v.rs.length),(10,ib (d+1:Nat))] 47) (zax 20 220 (gP ph q') [.row (pRow 20 1 q') 106 0, .row (flatI (rcP ph 20) 0 q'.v.rs) 66 10])→
    Weak 2 t s (slots [(0, .ptr 0 0),(8, .so 1 0 p.v.rs.length 0),(9,ib p.v.rs.length),(10,ib (d+1:Nat))] 47) (zax 20 220 (gP ph (it zao p (d+1))) [.row (pRow 20 1 (it zao p (d+1))) 106 0, .row (flatI (rcP ph 20) 0 (it zao p (d+1)).v.rs) 66 10]):=fun he hw=>by rw[hst,he];exact hw
  conv=>whnf
  refine KIf.dec (fun h=> ?_) (fun h=> ?_)
  ·have hltq:d<q.v.rs.length:=by omega
   have hoff:0+((d:Nat):Int).toNat*10=d*10:=by simp
   have hls:zao q d=if own (at_ Rc.o q.v.rs d)&& !q.v.ds.contains (at_ Rc.o q.v.rs d).ds then(q.note 2 d 0).setR d {at_ Rc.o q.v.rs d with ds:=at_ 0 q.v.ds 0} else q:=by unfold zao;simp only[zae]
   obtain⟨ob,hob⟩:∃b,own (at_ Rc.o q.v.rs d)=b:=⟨_,rfl⟩
   obtain⟨cb,hcb⟩:∃b,q.v.ds.contains (at_ Rc.o q.v.rs d).ds=b:=⟨_,rfl⟩
   have hown:=zgW (at_ Rc.o q.v.rs d);have hcon:=Contains_int q.v.ds (at_ Rc.o q.v.rs d).ds hqd.2;rw[hob] at hown;rw[hcb] at hcon;rw[hob,hcb] at hls
   (conv=>whnf);repeat(first|refine RK.of (zcI (zat ph 20) Rc.o hoff rfl rfl hltq rfl) ?_|refine zeo rfl rfl rfl rfl ?_|refine DCall.lend ([]) (hown) rfl ?_ ?_;exact zfP|refine Need.mk (p:=zah _=true) ?_ ?_;decide+kernel|refine Need.mk ?_ ?_;omega);conv=>whnf
   cases ob
   ·(conv=>whnf);repeat(first|refine KIf.f rfl ?_|refine Need.mk ?_ ?_;((constructor<;>omega)));conv=>whnf
    refine⟨d+1,by omega,by dsimp only;omega,stay (q':=q) (by rw[hls];rfl) ?_⟩
    (refine Weak.ofG [0,1] [] [] rfl rfl rfl rfl ?_ ?_ ?_ ?_;exact⟨pQ rfl rfl,rQ hq96,trivial⟩;exact gQ;exact zN;(focus((repeat' first|exact zT|exact rfl|refine zA ?_ ?_))))
   ·(conv=>whnf);repeat(first|refine DCall.pure (hcon) ?_|refine KIf.t rfl ?_);conv=>whnf
    cases cb
    ·have hls2:zao q d=(q.note 2 d 0).setR d {at_ Rc.o q.v.rs d with ds:=at_ 0 q.v.ds 0}:=by rw[hls];rfl
     have hoff2:0+((d:Nat):Int).toNat*10+6=d*10+6:=by simp
     have hd0:(0:Int)≤(d:Nat)∧((d:Nat):Int)<((q.note 2 d 0).v.rs.length:Nat):=⟨by omega,by show((d:Nat):Int)<(q.v.rs.length:Nat);omega⟩
     have hd1:(0:Int)≤0∧(0:Int)<((q.note 2 d 0).v.ds.length:Nat):=⟨by omega,by show(0:Int)<(q.v.ds.length:Nat);omega⟩
     (conv=>whnf);repeat(first|refine Need.mk ?_ ?_;(focus(first|exact hd0|exact hd1))|refine KCall.liftG [0,1] (.tup []) [.row (pRow 221 1 (q.note 2 d 0)) 106 0, .row (flatI (rcP ph 221) 0 ((q.note 2 d 0)).v.rs) 66 10] (zcF ph q 2 d 0 hq96 h1.fl (by omega)) rfl (zab _ _) (zab _ _) ?_ ?_ ?_ ?_;exact⟨pF FR.G ⟨rfl,rfl⟩,rF FR.G hq96,trivial⟩;(focus((repeat' first|exact zT|exact rfl|refine zA ?_ ?_)));exact⟨(by unfold Rn Rnl;trivial),rfl,⟨⟨rfl,rfl, .inl (zaA rfl)⟩,⟨rfl,rfl, .inl (zay hq96)⟩,trivial⟩⟩|refine zbC (zat ph 221) Rc.o (k:=6) [ib (at_ 0 q.v.ds 0)] (rcP ph 221 d {at_ Rc.o q.v.rs d with ds:=at_ 0 q.v.ds 0}) hoff2 rfl rfl rfl rfl rfl rfl hltq (by decide) rfl ?_|refine KIf.t rfl ?_|refine Need.mk (p:=zah _=true) ?_ ?_;decide+kernel|refine Need.mk ?_ ?_;((constructor<;>omega)));conv=>whnf
     refine⟨d+1,by omega,by dsimp only;omega,stay hls2 ?_⟩;refine Weak.ofG [0,1] [] [] rfl rfl rfl rfl ?_ ?_ ?_ ?_
     ·refine⟨⟨rfl,rfl,WL.row (zii (p:=q.note 2 d 0) FR.G ⟨rfl,rfl⟩ ⟨rfl,rfl,List.length_set,rfl,rfl⟩ ⟨rfl,rfl⟩)⟩,⟨rfl,rfl,WL.row (zbf (i:=d) hq96 List.length_set (fun k hk=>zau _ _ _ _ _ (Ne.symm hk)) zN ?_)⟩,trivial⟩;show WL _ _ _ (rcP ph 20 d (at_ Rc.o (q.v.rs.set d _) d)) _;rw[zal _ _ _ _ hltq];exact zkY FR.G (by omega)
     ·exact fun j o1 h _=>⟨(congrFun (zfo (p:=q.note 2 d 0) (i:=d) (x:={at_ Rc.o q.v.rs d with ds:=at_ 0 q.v.ds 0}) ⟨rfl,rfl⟩) j).symm.trans h,zab _ _ j o1 h⟩
     ·exact zN
     ·(repeat' first|exact zT|exact rfl|refine zA ?_ ?_)
    ·(conv=>whnf);repeat(first|refine KIf.f rfl ?_|refine Need.mk ?_ ?_;((constructor<;>omega)));conv=>whnf
     refine⟨d+1,by omega,by dsimp only;omega,stay (q':=q) (by rw[hls];rfl) ?_⟩
     (refine Weak.ofG [0,1] [] [] rfl rfl rfl rfl ?_ ?_ ?_ ?_;exact⟨pQ rfl rfl,rQ hq96,trivial⟩;exact gQ;exact zN;(focus((repeat' first|exact zT|exact rfl|refine zA ?_ ?_))))
  ·conv=>whnf
   rw[←hfin (by omega)];refine⟨?_⟩
   (refine Weak.ofG [0,1] [] [] rfl rfl rfl rfl ?_ ?_ ?_ ?_;exact⟨pQ rfl rfl,rQ hq96,trivial⟩;exact gQ;exact zN;(focus((repeat' first|exact zT|refine zA ?_ ?_))))
end Go.Proofs.YtgcjejajljhnaaaGreatDoor
namespace Ck
open Go Go.Ex
def zaH (f:Rp→Nat→Rp) (q:Rp) (j:Nat):Rp:=if own (q.rc (16+j:Nat)) then f q (16+j) else q
theorem zbl {h:T AO} {z:List Nat} {R:Nat→Option Nat} {k k0:Nat} (hk:RS R k∧RD R k=k0):WL h z R [.ptr k 0] [.ptr k0 0]:=by
 refine WL.cons ⟨hk.1,?_⟩ WL.nil;unfold Wv;exact⟨hk.2.symm,rfl⟩
theorem zlY {ρ:Nat→Nat} {k k0:Nat} (hk:ρ k=k0):Rnl ρ [.ptr k 0] [.ptr k0 0]:=Rnl.cons (by unfold Rn;rw[hk]) Rnl.nil
end Ck
namespace Go.Proofs.YtgcjejajljhnaaaGreatDoor
open Go.Ex Ck
set_option maxRecDepth 100000
set_option maxHeartbeats 4000000
theorem below_157 (n:Nat) (ph:Bool) (f:Ck.Rp→Nat→Ck.Rp) (p:Ck.Rp) (I:Nat→Ck.Rp→Prop) (hn:n≤96) (hI:∀j,j≤n-16→I j (it (zaH f) p j)) (hIn:∀j q,I j q→q.v.rs.length=n)
  (hcl:∀j q,16+j<n→I j q→own (at_ Rc.o q.v.rs (16+j))=true→HG Tryz.prog 3 20 220 157 [ib (16+j:Nat), .ptr 2 0] (gP ph q) [.row (pRow 20 1 q) 106 0, .row (flatI (rcP ph 20) 0 q.v.rs) 66 10, .row [.ptr 0 0] 107 0] (.tup [])
   (gP ph (f q (16+j))) [.row (pRow 20 1 (f q (16+j))) 106 0, .row (flatI (rcP ph 20) 0 (f q (16+j)).v.rs) 66 10, .row [.ptr 0 0] 107 0]):
  HG Tryz.prog 3 20 220 149 [.ptr 0 0, .fn (.func 157) [] [.ptr 2 0]] (gP ph p) [.row (pRow 20 1 p) 106 0, .row (flatI (rcP ph 20) 0 p.v.rs) 66 10, .row [.ptr 0 0] 107 0] (.tup [])
   (gP ph (below f p)) [.row (pRow 20 1 (below f p)) 106 0, .row (flatI (rcP ph 20) 0 (below f p).v.rs) 66 10, .row [.ptr 0 0] 107 0]:=by
 have hpn:p.v.rs.length=n:=hIn 0 p (hI 0 (Nat.zero_le _))
 have hp96:p.v.rs.length≤96:=by omega
 have hbe:below f p=it (zaH f) p (n-16):=by rw[←hpn];rfl
 rw[hbe];refine HG.of kmix (by omega) ?_
 conv=>whnf
 refine WLoop.inv kmix (D:=Nat) (fun d=>n-16-d) (fun d=>d≤n-16) (fun d=>slots [(0, .ptr 0 0),(1, .fn (.func 157) [] [.ptr 2 0]),(4,ib (16+d:Nat))] 27)
  (fun d=>zax 20 220 (gP ph (it (zaH f) p d)) [.row (pRow 20 1 (it (zaH f) p d)) 106 0, .row (flatI (rcP ph 20) 0 (it (zaH f) p d).v.rs) 66 10, .row [.ptr 0 0] 107 0]) 0 (Nat.zero_le _) ?_ ?_
 ·(refine Weak.ofG [0,1,2] [] [] rfl rfl rfl rfl ?_ ?_ ?_ ?_;exact⟨pQ rfl rfl,rQ hp96,⟨rfl,rfl,WL.row (zbl ⟨rfl,rfl⟩)⟩,trivial⟩;exact gQ;exact zN;(focus((repeat' first|exact zT|exact rfl|refine zA ?_ ?_))))
 ·intro d hd;have hId:=hI d hd;have hst:it (zaH f) p (d+1)=zaH f (it (zaH f) p d) d:=rfl
  have hfin:d=n-16→it (zaH f) p d=it (zaH f) p (n-16):=fun e=>by rw[e]
  have hIs:d+1≤n-16→I (d+1) (zaH f (it (zaH f) p d) d):=fun h=>hst▸hI (d+1) h
  generalize it (zaH f) p d=q at*
  have hqn:q.v.rs.length=n:=hIn d q hId
  have hq96:q.v.rs.length≤96:=by omega
  have stay:∀{t:Tm} {s:St} {q':Ck.Rp},zaH f q d=q'→Weak 3 t s (slots [(0, .ptr 0 0),(1, .fn (.func 157) [] [.ptr 2 0]),(4,ib (16+(d+1):Nat))] 27) (zax 20 220 (gP ph q') [.row (pRow 20 1 q') 106 0, .row (flatI (rcP ph 20) 0 q'.v.rs) 66 10, .row [.ptr 0 0] 107 0])→
    Weak 3 t s (slots [(0, .ptr 0 0),(1, .fn (.func 157) [] [.ptr 2 0]),(4,ib (16+(d+1):Nat))] 27) (zax 20 220 (gP ph (it (zaH f) p (d+1))) [.row (pRow 20 1 (it (zaH f) p (d+1))) 106 0, .row (flatI (rcP ph 20) 0 (it (zaH f) p (d+1)).v.rs) 66 10, .row [.ptr 0 0] 107 0]):=fun he hw=>by rw[hst,he];exact hw
  conv=>whnf
  refine KIf.dec (fun h=> ?_) (fun h=> ?_)
  ·have hltq:16+d<q.v.rs.length:=by omega
   have hd0:(0:Int)≤((16+d:Nat):Int)∧((16+d:Nat):Int)<(q.v.rs.length:Nat):=⟨by omega,by omega⟩
   have hoff:0+((16+d:Nat):Int).toNat*10=(16+d)*10:=by rw[Int.toNat_natCast,Nat.zero_add]
   have hls:zaH f q d=if own (at_ Rc.o q.v.rs (16+d)) then f q (16+d) else q:=by unfold zaH;rw[zae]
   obtain⟨ob,hob⟩:∃b,own (at_ Rc.o q.v.rs (16+d))=b:=⟨_,rfl⟩
   have hown:=zgW (at_ Rc.o q.v.rs (16+d));rw[hob] at hown hls
   (conv=>whnf);repeat(first|refine Need.mk ?_ ?_;exact hd0|refine RK.of (zcI (zat ph 20) Rc.o hoff rfl rfl hltq rfl) ?_|refine KCall.lend ([]) (hown) rfl ?_ ?_;exact zfP);conv=>whnf
   cases ob
   ·(conv=>whnf);repeat(first|refine KIf.f rfl ?_|refine Need.mk ?_ ?_;((constructor<;>omega)));conv=>whnf
    refine⟨d+1,by omega,by dsimp only;omega,stay (q':=q) (by rw[hls];rfl) ?_⟩
    (refine Weak.ofG [0,1,2] [] [] rfl rfl rfl rfl ?_ ?_ ?_ ?_;exact⟨pQ rfl rfl,rQ hq96,⟨rfl,rfl,WL.row (zbl ⟨rfl,rfl⟩)⟩,trivial⟩;exact gQ;exact zN;(focus((repeat' first|exact zT|exact rfl|refine zA ?_ ?_))))
   ·have hls2:zaH f q d=f q (16+d):=by rw[hls];rfl
    have hIs2:=hIs (by omega);rw[hls2] at hIs2
    have hf96:(f q (16+d)).v.rs.length≤96:=by rw[hIn _ _ hIs2];exact hn
    have hcl2:=hcl d q (by omega) hId hob
    (conv=>whnf);repeat(first|refine KCall.liftG [0,1,2] (.tup []) [.row (pRow 220 1 (f q (16+d))) 106 0, .row (flatI (rcP ph 220) 0 ((f q (16+d))).v.rs) 66 10, .row [.ptr 0 0] 107 0] (hcl2) rfl (zab _ _) (zab _ _) ?_ ?_ ?_ ?_;exact⟨pF FR.G ⟨rfl,rfl⟩,rF FR.G hq96,⟨rfl,rfl,WL.row (zbl ⟨rfl,rfl⟩)⟩,trivial⟩;(focus((repeat' first|exact zT|exact rfl|refine zA ?_ ?_)));exact⟨(by unfold Rn Rnl;trivial),rfl,⟨⟨rfl,rfl, .inl (zaA rfl)⟩,⟨rfl,rfl, .inl (zay hf96)⟩,⟨rfl,rfl, .inl (zlY rfl)⟩,trivial⟩⟩|refine KIf.t rfl ?_|refine Need.mk ?_ ?_;((constructor<;>omega)));conv=>whnf
    refine⟨d+1,by omega,by dsimp only;omega,stay hls2 ?_⟩
    (refine Weak.ofG [0,1,2] [] [] rfl rfl rfl rfl ?_ ?_ ?_ ?_;exact⟨pQ rfl rfl,rQ hf96,⟨rfl,rfl,WL.row (zbl ⟨rfl,rfl⟩)⟩,trivial⟩;exact gQ;exact zN;(focus((repeat' first|exact zT|exact rfl|refine zA ?_ ?_))))
  ·conv=>whnf
   rw[←hfin (by omega)];refine⟨?_⟩
   (refine Weak.ofG [0,1,2] [] [] rfl rfl rfl rfl ?_ ?_ ?_ ?_;exact⟨pQ rfl rfl,rQ hq96,⟨rfl,rfl,WL.row (zbl ⟨rfl,rfl⟩)⟩,trivial⟩;exact gQ;exact zN;(focus((repeat' first|exact zT|refine zA ?_ ?_))))
theorem link1_h (n:Nat) (ph:Bool) (q:Ck.Rp) (i:Nat) (hf:Rf n q) (hn:n≤96) (hi:i<n) (hb:q.fd.length≤500000) (hns:(at_ Rc.o q.v.rs i).ns.length≤100000):HG Tryz.prog 3 20 220 157 [ib (i:Nat), .ptr 2 0] (gP ph q) [.row (pRow 20 1 q) 106 0, .row (flatI (rcP ph 20) 0 q.v.rs) 66 10, .row [.ptr 0 0] 107 0] (.tup [])
   (gP ph (link1 q i)) [.row (pRow 20 1 (link1 q i)) 106 0, .row (flatI (rcP ph 20) 0 (link1 q i).v.rs) 66 10, .row [.ptr 0 0] 107 0]:=by
 have hqn:=hf.n
 have hq96:q.v.rs.length≤96:=by omega
 have hlt:i<q.v.rs.length:=by omega
 have hls:link1 q i=if(at_ Rc.o q.v.rs i).ln≠(at_ Rc.o q.v.rs i).ns.length then(q.note 8 i 0).setR i {at_ Rc.o q.v.rs i with ln:=(at_ Rc.o q.v.rs i).ns.length} else q:=by unfold link1;simp only[zae]
 have hd0:(0:Int)≤(i:Nat)∧((i:Nat):Int)<(q.v.rs.length:Nat):=⟨by omega,by omega⟩
 have hd1:(0:Int)≤(i:Nat)∧((i:Nat):Int)<((q.note 8 i 0).v.rs.length:Nat):=hd0
 have h7:0+((i:Nat):Int).toNat*10+7=i*10+7:=by simp
 have h5:0+((i:Nat):Int).toNat*10+5=i*10+5:=by simp
 refine HG.of kmix (by omega) ?_
 (conv=>whnf);repeat(first|refine Need.mk ?_ ?_;exact hd0|refine RK.of (zaP (zat ph 20) Rc.o (k:=7) h7 rfl rfl hlt (by decide) rfl) ?_|refine RK.of (zaP (zat ph 20) Rc.o (k:=5) h5 rfl rfl hlt (by decide) rfl) ?_);conv=>whnf
 by_cases hl:(at_ Rc.o q.v.rs i).ln=(at_ Rc.o q.v.rs i).ns.length
 ·have hls2:link1 q i=q:=by rw[hls,if_neg (by simp[hl])]
  rw[hls2]
  (conv=>whnf);repeat((refine KIf.f (congrArg Bool.not (decide_eq_true hl)) ?_;conv=>whnf))
  refine⟨?_⟩
  (refine Weak.ofG [0,1,2] [] [] rfl rfl rfl rfl ?_ ?_ ?_ ?_;exact⟨pQ rfl rfl,rQ hq96,⟨rfl,rfl,WL.row (zbl ⟨rfl,rfl⟩)⟩,trivial⟩;exact gQ;exact zN;(focus((repeat' first|exact zT|refine zA ?_ ?_))))
 ·have hls2:link1 q i=(q.note 8 i 0).setR i {at_ Rc.o q.v.rs i with ln:=(at_ Rc.o q.v.rs i).ns.length}:=by rw[hls,if_pos hl]
  rw[hls2]
  (conv=>whnf);repeat(first|refine Need.mk ?_ ?_;exact hd1|refine KIf.t (congrArg Bool.not (decide_eq_false hl)) ?_|refine KCall.liftG [0,1] (.tup []) [.row (pRow 220 1 (q.note 8 i 0)) 106 0, .row (flatI (rcP ph 220) 0 ((q.note 8 i 0)).v.rs) 66 10] (zcF ph q 8 i 0 hq96 hf.fl (by omega)) rfl (zab _ _) (zab _ _) ?_ ?_ ?_ ?_;exact⟨pF FR.G ⟨rfl,rfl⟩,rF FR.G hq96,trivial⟩;(focus((repeat' first|exact zT|exact rfl|refine zA ?_ ?_)));exact⟨(by unfold Rn Rnl;trivial),rfl,⟨⟨rfl,rfl, .inl (zaA rfl)⟩,⟨rfl,rfl, .inl (zay hq96)⟩,trivial⟩⟩|refine zbC (zat ph 220) Rc.o (k:=5) [ib (at_ Rc.o q.v.rs i).ns.length] (rcP ph 220 i {at_ Rc.o q.v.rs i with ln:=(at_ Rc.o q.v.rs i).ns.length}) h5 rfl rfl rfl rfl rfl rfl hlt (by decide) rfl ?_);conv=>whnf
  refine⟨?_⟩;refine Weak.ofG [0,1,2] [] [] rfl rfl rfl rfl ?_ ?_ ?_ ?_
  ·refine⟨⟨rfl,rfl,WL.row (zii (p:=q.note 8 i 0) FR.G ⟨rfl,rfl⟩ ⟨rfl,rfl,List.length_set,rfl,rfl⟩ ⟨rfl,rfl⟩)⟩,⟨rfl,rfl,WL.row (zbf (i:=i) hq96 List.length_set (fun k hk=>zau _ _ _ _ _ (Ne.symm hk)) zN ?_)⟩,⟨rfl,rfl,WL.row (zbl ⟨rfl,rfl⟩)⟩,trivial⟩;show WL _ _ _ (rcP ph 20 i (at_ Rc.o (q.v.rs.set i _) i)) _;rw[zal _ _ _ _ hlt];exact zkY FR.G (by omega)
  ·exact fun j o1 h _=>⟨(congrFun (zfo (p:=q.note 8 i 0) (i:=i) (x:={at_ Rc.o q.v.rs i with ln:=(at_ Rc.o q.v.rs i).ns.length}) ⟨rfl,rfl⟩) j).symm.trans h,zab _ _ j o1 h⟩
  ·exact zN
  ·(repeat' first|exact zT|refine zA ?_ ?_)
theorem links_h (n:Nat) (ph:Bool) (p:Ck.Rp) (hf:Rf n p) (hn:n≤96) (hb:p.fd.length≤400000) (hns:NsOk p):HG Tryz.prog 2 20 220 111 [.ptr 0 0] (gP ph p) [.row (pRow 20 1 p) 106 0, .row (flatI (rcP ph 20) 0 p.v.rs) 66 10] (.tup [])
  (gP ph (links p)) [.row (pRow 20 1 (links p)) 106 0, .row (flatI (rcP ph 20) 0 (links p).v.rs) 66 10]:=by
 have hp96:p.v.rs.length≤96:=by rw[hf.n];exact hn
 have hI:=zlf hf hns;have hbl:=below_157 n ph link1 p (fun j q=>Rf n q∧q.fd.length≤p.fd.length+j∧NsOk q) hn hI (fun j q h=>h.1.n) (fun j q hj h _=>link1_h n ph q (16+j) h.1 hn hj (by have:=h.2.1;omega) (ns_at h.2.2 _))
 have hl96:(links p).v.rs.length≤96:=by
  have:=(hI (n-16) (Nat.le_refl _)).1.n;unfold links below;rw[hf.n,this];exact hn
 refine HG.of kmix (by omega) ?_
 (conv=>whnf);repeat((refine KCall.liftG [0,1,220] (.tup []) [.row (pRow 221 1 (links p)) 106 0, .row (flatI (rcP ph 221) 0 ((links p)).v.rs) 66 10, .row [.ptr 0 0] 107 0] (hbl) rfl (zab _ _) (zab _ _) ?_ ?_ ?_ ?_;exact⟨pF FR.G ⟨rfl,rfl⟩,rF FR.G hp96,⟨rfl,rfl,WL.row (zbl ⟨rfl,rfl⟩)⟩,trivial⟩;(focus((repeat' first|exact zT|exact rfl|refine zA ?_ ?_)));exact⟨(by unfold Rn Rnl;trivial),rfl,⟨⟨rfl,rfl, .inl (zaA rfl)⟩,⟨rfl,rfl, .inl (zay hl96)⟩,⟨rfl,rfl, .inl (zlY rfl)⟩,trivial⟩⟩;conv=>whnf))
 refine⟨?_⟩
 (refine Weak.ofG [0,1] [] [] rfl rfl rfl rfl ?_ ?_ ?_ ?_;exact⟨pQ rfl rfl,rQ hl96,trivial⟩;exact gQ;exact zN;(focus((repeat' first|exact zT|refine zA ?_ ?_))))
end Go.Proofs.YtgcjejajljhnaaaGreatDoor
namespace Ck
open Go Go.Ex
def zhj (g:Nat→Option AO) (j:Nat):Option AO:=if j=192∨j=193 then none else g j
theorem zdP {g:Nat→Option AO} {j:Nat} (h1:j≠192) (h2:j≠193):zhj g j=g j:=if_neg (by omega)
theorem za0 {ph:Bool} {p:Rp}:∀j o,zhj (gP ph p) j=some o→zbn o:=fun j o h=>by
 unfold zhj at h;split at h
 ·cases h
 ·exact zab _ _ j o h
def nRow (k a b:Nat) (p:Rp):List AV:=[ib p.v.c,LS 2 aRun Run.o p.v.al, .so k 0 p.v.rs.length 0,LS 1 aI 0 p.v.ds,tb p.v.mp, .so a 0 p.fd.length 0, .so b 0 p.fl.length 0]
theorem zfc {R:Nat→Option Nat} {h:T AO} {z:List Nat} {k k0 n m:Nat} (hk:RS R k∧RD R k=k0) (hm:m=n):NmP (RS R) (.so k 0 n 0)∧Wv h z (RD R) (.so k 0 n 0) (.so k0 0 m 0):=by
 refine⟨by unfold NmP;exact hk.1,?_⟩;unfold Wv;exact⟨hk.2.symm,rfl,hm,rfl⟩
theorem zfR {ρ:Nat→Nat} {p:Rp} {k a b k0 a0 b0:Nat} (hk:ρ k=k0) (ha:ρ a=a0) (hb:ρ b=b0):Rnl ρ (nRow k a b p) (nRow k0 a0 b0 p):=by
 unfold nRow;exact Rnl.cons Rn.sc (Rnl.cons Rn.lst (Rnl.cons (by unfold Rn;rw[hk]) (Rnl.cons Rn.lst (Rnl.cons Rn.sc (Rnl.cons (by unfold Rn;rw[ha]) (Rnl.cons (by unfold Rn;rw[hb]) Rnl.nil))))))
end Ck
namespace Go.Proofs.YtgcjejajljhnaaaGreatDoor
open Go.Ex Ck
set_option maxRecDepth 100000
set_option maxHeartbeats 4000000
theorem zk6 (ph:Bool) (p:Ck.Rp) (k r i:Int) (hn:p.v.rs.length≤96) (hl:p.fl.length=p.fd.length) (hb:p.fd.length≤1000000):HK Tryz.prog 2 144 [.ptr 200 0,ib k,ib r,ib i] (gP ph p) [.row (pRow 0 201 p) 106 0, .row (flatI (rcP ph 0) 0 p.v.rs) 66 10] (.tup [])
  (zhj (gP ph p)) [.row (nRow 201 202 203 (p.note k r i)) 106 0, .row (flatI (rcP ph 0) 0 p.v.rs) 66 10, .row ((p.note k r i).fd.flatMap aFd) 86 3, .row ((p.note k r i).fl.map ib) 3 1]:=by
 have hfd:(p.note k r i).fd=p.fd++[⟨k,r,i⟩]:=rfl;have hfl:(p.note k r i).fl=p.fl++[-1]:=rfl;refine HK.of kmix (by omega) ?_
 by_cases h0:p.fd=[]
 ·have hl0:p.fl=[]:=List.eq_nil_of_length_eq_zero (by rw[hl,h0];rfl)
  have e1:slF 0 p.fd= .sc (.slice none 0 0):=by rw[h0];rfl
  have e2:slL 0 p.fl= .sc (.slice none 0 0):=by rw[hl0];rfl
  (conv=>whnf);repeat(first|refine NCase.s (Nat.succ_ne_zero _) ?_|refine Need.mk (p:=zah _=true) ?_ ?_;decide+kernel|refine Need.mk ?_ ?_;trivial|rw[e1]|rw[e2]);conv=>whnf
  refine⟨?_⟩;refine Weak.ofK [200,201,221,223] [] rfl rfl rfl rfl ?_ ?_ ?_
  ·refine⟨⟨rfl,rfl,WL.row (WL.sc rfl (WL.sc rfl (WL.cons (zfc ⟨rfl,rfl⟩ rfl) (WL.sc rfl (WL.sc rfl (WL.cons (zfc ⟨rfl,rfl⟩ (by rw[hfd,h0];rfl)) (WL.cons (zfc ⟨rfl,rfl⟩ (by rw[hfl,hl0];rfl)) WL.nil)))))))⟩,rF FR.K hn,⟨rfl,rfl, .same (by rw[hfd,h0];rfl) rfl⟩,⟨rfl,rfl, .same (by rw[hfl,hl0];rfl) rfl⟩,trivial⟩
  ·exact fun j o1 h=>⟨by unfold zhj at h;split at h;cases h;exact h,za0 j o1 h⟩
  ·(repeat' first|exact zT|refine zA ?_ ?_)
 ·have hl0:p.fl≠[]:=fun e=>h0 (List.eq_nil_of_length_eq_zero (by rw[←hl,e];rfl))
  have e1:slF 0 p.fd= .so (fam 0 192) 0 p.fd.length 0:=zhq h0;have e2:slL 0 p.fl= .so (fam 0 193) 0 p.fl.length 0:=zi5 hl0
  have hb1:(p.fd.length+1)*24≤2^47∧p.fd.length+1≤2^60:=by constructor<;>omega
  have hb2:(p.fl.length+1)*8≤2^47∧p.fl.length+1≤2^60:=by constructor<;>omega
  (conv=>whnf);repeat(first|refine Need.mk ?_ ?_;(focus(first|exact hb1|exact hb2|exact zn1 _|exact znY _))|rw[e1]|rw[e2]|refine RK.of (zf3 ((zaq (by omega)).trans (zlX h0))) ?_|refine RK.of (zf3 ((zaq (by omega)).trans ((zbh (by omega)).trans (zmN hl0)))) ?_|rw[zcW (j:=192) (show 192<200-0 by omega)]|rw[zcW (j:=193) (show 193<200-0 by omega)]|refine NCase.s (Nat.succ_ne_zero _) ?_|refine Need.mk (p:=zah _=true) ?_ ?_;decide+kernel|refine Need.mk ?_ ?_;trivial);conv=>whnf
  refine⟨?_⟩;refine Weak.ofK [200,201,221,223] [] rfl rfl rfl rfl ?_ ?_ ?_
  ·refine⟨⟨rfl,rfl,WL.row (WL.sc rfl (WL.sc rfl (WL.cons (zfc ⟨rfl,rfl⟩ rfl) (WL.sc rfl (WL.sc rfl (WL.cons (zfc ⟨rfl,rfl⟩ (by rw[hfd];simp)) (WL.cons (zfc ⟨rfl,rfl⟩ (by rw[hfl];simp)) WL.nil)))))))⟩,rF FR.K hn,⟨rfl,rfl, .same (by rw[hfd,List.flatMap_append];rfl) (note_ov.nmc (zbR _) rfl)⟩,⟨rfl,rfl, .same (by rw[hfl,List.map_append];rfl) (note_ov.nmc (zbH _) rfl)⟩,trivial⟩
  ·exact fun j o1 h=>⟨by unfold zhj at h;split at h;cases h;rename_i hne;rw[zbh (by omega),zbh (by omega)];exact h,za0 j o1 h⟩
  ·(repeat' first|exact zT|refine zA ?_ ?_)
end Go.Proofs.YtgcjejajljhnaaaGreatDoor
namespace Ck
open Go Go.Ex
theorem zbQ {α:Type} (enc:α→List AV):∀(l:List α) (i:Nat),flatI (fun _ x=>enc x) i l=l.flatMap enc
 |[],_=>rfl
 |x::l,i=>by
  unfold flatI;rw[zbQ enc l (i+1),List.flatMap_cons]
theorem zjG {α:Type} (enc:α→List AV) (x':α):∀(l:List α) (i j:Nat),flatI (updI (fun _ x=>enc x) (i+j) (enc x')) i l=(l.set j x').flatMap enc
 |[],_,_=>rfl
 |x::l,i,0=>by
  unfold flatI;rw[show i+0=i from rfl,zbB,List.set_cons_zero,List.flatMap_cons]
  congr 1
  have:flatI (updI (fun _ x=>enc x) i (enc x')) (i+1) l=flatI (fun _ x=>enc x) (i+1) l:=zeg x' l (i+1) (fun j _=>zgi (by omega) _ _);rw[this,zbQ]
 |x::l,i,j+1=>by
  unfold flatI;rw[zgi (by omega),List.set_cons_succ,List.flatMap_cons]
  congr 1
  rw[show i+(j+1)=i+1+j by omega];exact zjG enc x' l (i+1) j
section
variable {P : Program} {s : St} {K : KC} {α : Type} {enc : α → List AV} {sz : Nat}
theorem zju (hf:∀x,(enc x).length=sz) (o:α) {l:List α} {T:TypeId} {b j off:Nat} {e:TypeId} {q:Nat} (hoff:off=j*sz) (hT:tyS P T= .ok (true,sz)) (hr:s.h.get b=some (.row (l.flatMap enc) e q)) (hj:j<l.length):zct P s T b off= .ok (.agg (enc (at_ o l j))):=
 zcI (f:=fun _ x=>enc x) (fun _ x=>hf x) o hoff hT (by rw[zbQ];exact hr) hj rfl
theorem zhm (hf:∀x,(enc x).length=sz) (o:α) {l:List α} {T:TypeId} {b j k n off:Nat} {v:AV} {e:TypeId} {q:Nat} {a:Bool} (x':α) (hoff:off=j*sz+k) (hn:zd2 v=true) (hT:tyS P T= .ok (a,n)) (hl:v.cells.length=n) (h1:∀y∈v.cells,oneA y=true) (hr:s.h.get b=some (.row (l.flatMap enc) e q)) (hj:j<l.length) (hk:k+n≤sz)
  (hc:(enc (at_ o l j)).take k++(v.cells++(enc (at_ o l j)).drop (k+n))=enc x') (hk2:(s.set b (.row ((l.set j x').flatMap enc) e q)).nfK fun s=>K AV.undef s):zdZ (zcD P s T (.ptr b off) v) K:=by
 subst hoff
 have hlt:j*sz+sz≤l.length*sz:=by rw[←Nat.succ_mul];exact Nat.mul_le_mul_right _ hj
 refine zdf (zdg (c':=(l.set j x').flatMap enc) hn hT hl h1 hr (by rw[←zbQ enc l 0,zbY (fun _ x=>hf x)];omega) ?_) hk2;have:=zjH (f:=fun _ x=>enc x) (fun _ x=>hf x) o hj hk hl hc;rw[zbQ] at this;rw[this];have h2:=zjG enc x' l 0 j;rw[Nat.zero_add] at h2;exact h2
end
theorem seE_len {A i:Nat} {x y:Rc} (h:x.es.length=y.es.length):seE A i x=seE A i y:=by
 unfold seE
 by_cases hx:x.es=[]
 ·have hy:y.es=[]:=List.eq_nil_of_length_eq_zero (by rw[←h,hx];rfl);rw[if_pos hx,if_pos hy]
 ·have hy:y.es≠[]:=fun e=>hx (List.eq_nil_of_length_eq_zero (by rw[h,e];rfl))
  rw[if_neg hx,if_neg hy,h]
theorem zfq {α:Type} (f:Nat→α→List AV) (o:α):∀(l:List α) (i j:Nat) (x:α),f (i+j) x=f (i+j) (at_ o l j)→flatI f i (l.set j x)=flatI f i l
 |[],_,_,_,_=>rfl
 |y::l,i,0,x,h=>by
  rw[List.set_cons_zero];unfold flatI;rw[show f i x=f i y from h]
 |y::l,i,j+1,x,h=>by
  rw[List.set_cons_succ];unfold flatI;rw[zfq f o l (i+1) j x (by rw[show i+1+j=i+(j+1) by omega];exact h)]
theorem rcP_es {ph:Bool} {A i:Nat} {x:Rc} {es:List En} (h:es.length=x.es.length):rcP ph A i {x with es:=es}=rcP ph A i x:=by
 unfold rcP;rw[show seE A i {x with es:=es}=seE A i x from seE_len h];rfl
theorem gP_setE {ph:Bool} {q:Rp} {d:Nat} {es:List En} (hd:d<q.v.rs.length) (h96:d<96) (hne:es≠[]):gP ph (q.setR d {at_ Rc.o q.v.rs d with es:=es})=updF (gP ph q) (2*d+1) (some (.row (es.flatMap aEn) 73 4)):=by
 funext j
 have hat:at_ Rc.o (q.setR d {at_ Rc.o q.v.rs d with es:=es}).v.rs d={at_ Rc.o q.v.rs d with es:=es}:=zal _ _ _ _ hd;by_cases h1:j=2*d+1
 ·subst h1;rw[zcc,if_pos rfl];have:=zjD (ph:=ph) (p:=q.setR d {at_ Rc.o q.v.rs d with es:=es}) (i:=d) (by show d<(q.v.rs.set _ _).length;rw[List.length_set];exact hd) h96 (by rw[hat];exact hne);rw[hat] at this;exact this
 ·rw[zbh h1];by_cases h2:j=2*d
  ·subst h2;rw[zcJ (by omega),zcJ (by omega)]
   have e:2*d/2=d:=by omega
   rw[e];show(match(q.v.rs.set d _)[d]? with|none=>none|some x=>_)=_;rw[List.getElem?_set_self hd,List.getElem?_eq_getElem hd,←zaG Rc.o _ _ hd]
   have e2:2*d%2=0:=by omega
   simp only[e2,if_true]
  ·exact znx (p:=q) (q:=q.setR d {at_ Rc.o q.v.rs d with es:=es}) (i:=d) List.length_set rfl rfl (fun k hk=>zau _ _ _ _ _ (Ne.symm hk)) h2 h1
theorem znR {h:T AO} {z:List Nat} {A a b k0:Nat} {r:List Nat} {q q':Rp} {x:Fd} {y:Int} {l:List Fd} {m:List Int} (hk:RS (RG A [(192,a),(193,b)] r) 1∧RD (RG A [(192,a),(193,b)] r) 1=k0) (hv:q'.v.c=q.v.c∧q'.v.al=q.v.al∧q.v.rs.length=q'.v.rs.length∧q'.v.ds=q.v.ds∧q'.v.mp=q.v.mp)
  (h1:q'.fd=q.fd) (h2:q'.fl=q.fl) (h3:q.fd=l++[x]) (h4:q.fl=m++[y]):WL h z (RG A [(192,a),(193,b)] r) (pRow 20 1 q') (nRow k0 a b q):=by
 unfold pRow nRow;rw[hv.1,hv.2.1,hv.2.2.2.1,hv.2.2.2.2,hv.2.2.1,h1,h2,h3,h4];exact WL.sc rfl (WL.sc rfl (WL.cons (zfJ hk) (WL.sc rfl (WL.sc rfl (WL.cons (zmg (by simp)) (WL.cons (zmf (by simp)) WL.nil))))))
end Ck
namespace Go.Proofs.YtgcjejajljhnaaaGreatDoor
open Go.Ex Ck
set_option maxRecDepth 100000
set_option maxHeartbeats 8000000
theorem zkO (x:Rc) (hs:x.ss.length≤100000):PureC Tryz.prog 158 [.agg [.any, .any,ib x.k, .any, .any, .any, .any, .any,LS 2 aSm Sm.o x.ss, .any]] (ib (Ck.sizeOf x)):=by
 unfold Ck.sizeOf;by_cases hk:x.k=1
 ·by_cases hl:0<x.ss.length
  ·have hl':(0:Int)<((x.ss.length:Nat):Int):=by omega
   rw[if_pos ⟨hk,hl⟩];refine PureC.of kmix rfl ?_
   (conv=>whnf);repeat(first|refine KIf.t (decide_eq_true hk) ?_|refine KIf.t (decide_eq_true hl') ?_|refine Need.mk ?_ ?_;trivial);conv=>whnf
   refine .z [] ?_;exact zaa rfl
  ·have hl':¬(0:Int)<((x.ss.length:Nat):Int):=by omega
   rw[if_neg (fun h=>hl h.2)];refine PureC.of kmix rfl ?_
   (conv=>whnf);repeat(first|refine KIf.t (decide_eq_true hk) ?_|refine KIf.f (decide_eq_false hl') ?_);conv=>whnf
   refine .z [] ?_;exact zaa rfl
 ·rw[if_neg (fun h=>hk h.1)];refine PureC.of kmix rfl ?_
  (conv=>whnf);repeat(first|refine KIf.f (decide_eq_false hk) ?_|refine KIf.f rfl ?_);conv=>whnf
  refine .z [] ?_;exact zaa rfl
structure LiesS (h:T AO) (z:List Nat) (A:Nat) (ph:Bool) (p:Ck.Rp):Prop where
 z:∀j,j<192→fam A j∈z
 g:∀j,j<192→h.get (fam A j)=gP ph p j
theorem zi2 {h:T AO} {z:List Nat} {A i:Nat} {ph:Bool} {p:Ck.Rp} {x:Rc} (H:LiesS h z A ph p) (hi:i<p.v.rs.length) (h96:i<96) (hx:at_ Rc.o p.v.rs i=x):Wzl h z [.agg [.any, .any,ib x.k, .any, .any, .any, .any, .any,LS 2 aSm Sm.o x.ss, .any]] [.agg (rcP ph A i x)]:=by
 subst hx
 have hs:Wz h z (LS 2 aSm Sm.o (at_ Rc.o p.v.rs i).ss) (seS ph A i (at_ Rc.o p.v.rs i)):=by
  unfold seS
  by_cases hs:ph=true∨(at_ Rc.o p.v.rs i).ss=[]
  ·rw[if_pos hs];exact zaa rfl
  ·rw[if_neg hs]
   have hph:ph=false:=by cases ph with|false=>rfl|true=>exact absurd (.inl rfl) hs
   subst hph;exact zj4 (fun _=>rfl) (fun _=>rfl) ((H.g _ (by omega)).trans (znw hi h96 (fun e=>hs (.inr e)))) (H.z _ (by omega)) rfl
 exact Wzc (by unfold Wz;exact Wzc Wza (Wzc Wza (Wzc (zaa rfl) (Wzc Wza (Wzc Wza (Wzc Wza (Wzc Wza (Wzc Wza (Wzc hs (Wzc Wza Wzn)))))))))) Wzn
theorem zez {v:Pt} {r:Ref} (h:Ck.right v r=true):wi r.r 0 (v.rs.length-1)=true∧r.r.toNat<v.rs.length∧own (at_ Rc.o v.rs r.r.toNat)=true:=by
 unfold Ck.right at h;simp only[Bool.and_eq_true] at h;have:=h.1.1;refine⟨this,?_,h.1.2⟩;simp[wi] at this;omega
theorem zoG {ph:Bool} {A:Nat} {v:Pt} {r:Ref} (h:Ck.right v r=true):rgC ph A v r=rcP ph A r.r.toNat (at_ Rc.o v.rs r.r.toNat):=if_pos (zez h).1
theorem sizes_h (n:Nat) (ph:Bool) (p:Ck.Rp) (hf:Rg n p) (hn:n≤96) (hb:p.fd.length≤450000):HG Tryz.prog 2 20 220 112 [.ptr 0 0] (gP ph p) [.row (pRow 20 1 p) 106 0, .row (flatI (rcP ph 20) 0 p.v.rs) 66 10] (.tup [])
  (gP ph (sizes p)) [.row (pRow 20 1 (sizes p)) 106 0, .row (flatI (rcP ph 20) 0 (sizes p).v.rs) 66 10]:=by
 have hpn:p.v.rs.length=n:=hf.rf.n
 have h96:p.v.rs.length≤96:=by omega
 obtain⟨B,hB⟩:∃B,B=1000:=⟨_,rfl⟩
 subst hpn;refine HG.of kmix (by omega) ?_
 conv=>whnf
 refine WLoop.inv kmix (D:=Nat) (fun d=>p.v.rs.length-d) (fun d=>d≤p.v.rs.length) (fun d=>slots [(0, .ptr 0 0),(12, .so 1 0 p.v.rs.length 0),(13,ib p.v.rs.length),(14,ib d)] 61)
  (fun d=>zax 20 220 (gP ph (it zak p d)) [.row (pRow 20 1 (it zak p d)) 106 0, .row (flatI (rcP ph 20) 0 (it zak p d).v.rs) 66 10]) 0 (Nat.zero_le _) ?_ ?_
 ·(refine Weak.ofG [0,1] [] [] rfl rfl rfl rfl ?_ ?_ ?_ ?_;exact⟨pQ rfl rfl,rQ h96,trivial⟩;exact gQ;exact zN;(focus((repeat' first|exact zT|exact rfl|refine zA ?_ ?_))))
 ·intro d hd;obtain⟨h1,h2⟩:=zgm hB hf d hd;have hst:it zak p (d+1)=zak (it zak p d) d:=rfl
  have hfin:d=p.v.rs.length→it zak p d=sizes p:=fun e=>by rw[e];rfl
  have hmul:d*B≤96*B:=Nat.mul_le_mul_right _ (by omega)
  generalize it zak p d=q0 at*
  have hqn:q0.v.rs.length=p.v.rs.length:=h1.rf.n
  have hq96:q0.v.rs.length≤96:=by omega
  have stay:∀{t:Tm} {s:St} {q':Ck.Rp},zak q0 d=q'→Weak 2 t s (slots [(0, .ptr 0 0),(12, .so 1 0 p.v.rs.length 0),(13,ib p.v.rs.length),(14,ib (d+1:Nat))] 61) (zax 20 220 (gP ph q') [.row (pRow 20 1 q') 106 0, .row (flatI (rcP ph 20) 0 q'.v.rs) 66 10])→
    Weak 2 t s (slots [(0, .ptr 0 0),(12, .so 1 0 p.v.rs.length 0),(13,ib p.v.rs.length),(14,ib (d+1:Nat))] 61) (zax 20 220 (gP ph (it zak p (d+1))) [.row (pRow 20 1 (it zak p (d+1))) 106 0, .row (flatI (rcP ph 20) 0 (it zak p (d+1)).v.rs) 66 10]):=fun he hw=>by rw[hst,he];exact hw
  conv=>whnf
  refine KIf.dec (fun h=> ?_) (fun h=> ?_)
  ·have hltp:d<p.v.rs.length:=by omega
   have hltq:d<q0.v.rs.length:=by omega
   have hoff:0+((d:Nat):Int).toNat*10=d*10:=by simp
   have hls:zak q0 d=if dir (at_ Rc.o q0.v.rs d) then it (sizeStep d) q0 (at_ Rc.o q0.v.rs d).es.length else q0:=by unfold zak;simp only[zae]
   obtain⟨ob,hob⟩:∃b,dir (at_ Rc.o q0.v.rs d)=b:=⟨_,rfl⟩
   have hdir:=zkj (at_ Rc.o q0.v.rs d);rw[hob] at hdir hls
   (conv=>whnf);repeat(first|refine RK.of (zcI (zat ph 20) Rc.o hoff rfl rfl hltq rfl) ?_|refine zeo rfl rfl rfl rfl ?_|refine KCall.lend ([]) (hdir) rfl ?_ ?_;exact zfP|refine Need.mk ?_ ?_;omega);conv=>whnf
   cases ob
   ·(conv=>whnf);repeat(first|refine KIf.t rfl ?_|refine Need.mk ?_ ?_;((constructor<;>omega)));conv=>whnf
    refine⟨d+1,by omega,by dsimp only;omega,stay (q':=q0) (by rw[hls];rfl) ?_⟩
    (refine Weak.ofG [0,1] [] [] rfl rfl rfl rfl ?_ ?_ ?_ ?_;exact⟨pQ rfl rfl,rQ hq96,trivial⟩;exact gQ;exact zN;(focus((repeat' first|exact zT|exact rfl|refine zA ?_ ?_))))
   ·have hls2:zak q0 d=it (sizeStep d) q0 (at_ Rc.o q0.v.rs d).es.length:=by rw[hls];rfl
    by_cases he0:(at_ Rc.o q0.v.rs d).es=[]
    ·have e1:seE 20 d (at_ Rc.o q0.v.rs d)=LS 4 aEn En.o []:=zdh he0
     have hls3:zak q0 d=q0:=by rw[hls2,he0];rfl
     (conv=>whnf);repeat(first|rw[e1]|refine KIf.f rfl ?_);conv=>whnf
     refine WLoop.inv kmix (D:=Unit) (fun _=>0) (fun _=>True) (fun _=>slots [(0, .ptr 0 0),(12, .so 1 0 p.v.rs.length 0),(13,ib p.v.rs.length),(14,ib d),(24,ib (0:Nat)),(25,ib (0:Nat))] 61)
      (fun _=>zax 20 220 (gP ph q0) [.row (pRow 20 1 q0) 106 0, .row (flatI (rcP ph 20) 0 q0.v.rs) 66 10]) () trivial ?_ ?_
     ·(refine Weak.ofG [0,1] [] [] rfl rfl rfl rfl ?_ ?_ ?_ ?_;exact⟨pQ rfl rfl,rQ hq96,trivial⟩;exact gQ;exact zN;(focus((repeat' first|exact zT|exact rfl|refine zA ?_ ?_))))
     ·intro _ _
      (conv=>whnf);repeat((first|(refine KIf.f rfl ?_;conv=>whnf)|(refine Need.mk ?_ ?_;((constructor<;>omega));conv=>whnf)))
      refine⟨d+1,by omega,by dsimp only;omega,stay hls3 ?_⟩
      (refine Weak.ofG [0,1] [] [] rfl rfl rfl rfl ?_ ?_ ?_ ?_;exact⟨pQ rfl rfl,rQ hq96,trivial⟩;exact gQ;exact zN;(focus((repeat' first|exact zT|exact rfl|refine zA ?_ ?_))))
    ·have e1:seE 20 d (at_ Rc.o q0.v.rs d)= .so (fam 20 (2*d+1)) 0 (at_ Rc.o q0.v.rs d).es.length 0:=zfL he0
     have h9:2*d+1<200:=by omega
     have hd96:d<96:=by omega
     (conv=>whnf);repeat(first|rw[e1]|refine KIf.f rfl ?_);conv=>whnf
     have hin:=zj5 h1 hltp;have hL:(at_ Rc.o q0.v.rs d).es.length≤1000:=(h1.at hltp).2
     obtain⟨x0,hx0⟩:∃x,at_ Rc.o q0.v.rs d=x:=⟨_,rfl⟩
     rw[hx0] at e1 hls2 he0 hin hL⊢
     refine WLoop.inv kmix (D:=Nat) (fun k=>x0.es.length-k) (fun k=>k≤x0.es.length) (fun k=>slots [(0, .ptr 0 0),(2,ib d),(3, .ptr 2 0),(12, .so 1 0 p.v.rs.length 0),(13,ib p.v.rs.length),(14,ib d),(23, .so (fam 20 (2*d+1)) 0 x0.es.length 0),(24,ib x0.es.length),(25,ib k)] 61)
      (fun k=>zax 20 220 (gP ph (it (sizeStep d) q0 k)) [.row (pRow 20 1 (it (sizeStep d) q0 k)) 106 0, .row (flatI (rcP ph 20) 0 (it (sizeStep d) q0 k).v.rs) 66 10, .row (rcP ph 20 d x0) 66 0]) 0 (Nat.zero_le _) ?_ ?_
     ·refine Weak.ofG [0,1,220] [] [] rfl rfl rfl rfl ?_ ?_ ?_ ?_
      ·exact⟨pQ rfl rfl,rQ hq96,⟨rfl,rfl,WL.row (zcj hd96 zN)⟩,trivial⟩
      ·exact gQ
      ·exact zN
      ·(repeat' first|exact zT|exact so_W h9 zN|exact rfl|refine zA ?_ ?_)
     ·intro k hk;obtain⟨h3,h4,h5⟩:=hin k;have hst2:it (sizeStep d) q0 (k+1)=sizeStep d (it (sizeStep d) q0 k) k:=rfl
      have hfin2:k=x0.es.length→it (sizeStep d) q0 k=zak q0 d:=fun e=>by rw[hls2,e]
      generalize it (sizeStep d) q0 k=q at*
      have hqqn:q.v.rs.length=p.v.rs.length:=h3.rf.n
      have hqq96:q.v.rs.length≤96:=by omega
      have hqd:d<q.v.rs.length:=by omega
      have hne:(at_ Rc.o q.v.rs d).es≠[]:=fun e=>he0 (List.eq_nil_of_length_eq_zero (by rw[←h5,e];rfl))
      have hge:gP ph q (2*d+1)=some (.row ((at_ Rc.o q.v.rs d).es.flatMap aEn) 73 4):=zjD hqd hd96 hne
      have stay2:∀{t:Tm} {s:St} {q':Ck.Rp},sizeStep d q k=q'→Weak 2 t s (slots [(0, .ptr 0 0),(2,ib d),(3, .ptr 2 0),(12, .so 1 0 p.v.rs.length 0),(13,ib p.v.rs.length),(14,ib d),(23, .so (fam 20 (2*d+1)) 0 x0.es.length 0),(24,ib x0.es.length),(25,ib (k+1:Nat))] 61) (zax 20 220 (gP ph q') [.row (pRow 20 1 q') 106 0, .row (flatI (rcP ph 20) 0 q'.v.rs) 66 10, .row (rcP ph 20 d x0) 66 0])→
       Weak 2 t s (slots [(0, .ptr 0 0),(2,ib d),(3, .ptr 2 0),(12, .so 1 0 p.v.rs.length 0),(13,ib p.v.rs.length),(14,ib d),(23, .so (fam 20 (2*d+1)) 0 x0.es.length 0),(24,ib x0.es.length),(25,ib (k+1:Nat))] 61) (zax 20 220 (gP ph (it (sizeStep d) q0 (k+1))) [.row (pRow 20 1 (it (sizeStep d) q0 (k+1))) 106 0, .row (flatI (rcP ph 20) 0 (it (sizeStep d) q0 (k+1)).v.rs) 66 10, .row (rcP ph 20 d x0) 66 0]):=fun he hw=>by rw[hst2,he];exact hw
      conv=>whnf
      refine KIf.dec (fun hkl=> ?_) (fun hkl=> ?_)
      ·have hkx:k<(at_ Rc.o q.v.rs d).es.length:=by rw[h5];omega
       have hk0:(0:Int)≤(k:Nat)∧((k:Nat):Int)<(x0.es.length:Nat):=⟨by omega,by omega⟩
       have hoffk:0+((k:Nat):Int).toNat*4=k*4:=by simp
       have hss:sizeStep d q k=if right q.v (at_ En.o (at_ Rc.o q.v.rs d).es k).f&&(at_ En.o (at_ Rc.o q.v.rs d).es k).z !=Ck.sizeOf (at_ Rc.o q.v.rs (at_ En.o (at_ Rc.o q.v.rs d).es k).f.r.toNat) then(q.note 9 d k).setR d {at_ Rc.o q.v.rs d with es:=(at_ Rc.o q.v.rs d).es.set k {at_ En.o (at_ Rc.o q.v.rs d).es k with z:=Ck.sizeOf (at_ Rc.o q.v.rs (at_ En.o (at_ Rc.o q.v.rs d).es k).f.r.toNat)}} else q:=by
        unfold sizeStep;simp only[zae];rfl
       obtain⟨x,hx⟩:∃x,at_ En.o (at_ Rc.o q.v.rs d).es k=x:=⟨_,rfl⟩
       rw[hx] at hss
       obtain⟨ob2,hob2⟩:∃b,right q.v x.f=b:=⟨_,rfl⟩
       rw[hob2] at hss
       have hq2:q.v.rs.length=p.v.rs.length∧p.v.rs.length≤96:=⟨hqqn,h96⟩
       (conv=>whnf);repeat(first|refine Need.mk ?_ ?_;exact hk0|refine RK.of (zju (enc:=aEn) (sz:=4) (fun _=>rfl) En.o hoffk rfl ((zaq (show 2*d+1<220-20 from h9)).trans hge) hkx) ?_|rw[hx]|refine DCall.liftK [1] (.tup [.agg (rgC ph 20 q.v x.f),bb ob2]) [.row (flatI (rcP ph 20) 0 q.v.rs) 66 10] (zib ph q x.f hob2 ⟨rfl,hqq96⟩) rfl (zab _ _) (zab _ _) ?_ ?_ ?_ ?_;exact⟨rF FR.L hqq96,trivial⟩;(focus((repeat' first|exact zT|exact rfl|(intro _ _;exact rfl)|refine zA ?_ ?_)));exact⟨zl3 (zoi FN.L hqq96),rfl,⟨⟨rfl,rfl, .inl (zb1 FN.L hqq96)⟩,trivial⟩⟩|refine zeq (c':=rgC ph 20 q.v x.f) rfl rfl (zj8 _ _ _ _) (zj7 _ _ _ _) rfl rfl ?_|refine Need.mk (p:=zah _=true) ?_ ?_;decide+kernel);conv=>whnf
       cases ob2
       ·have hss2:sizeStep d q k=q:=by rw[hss];rfl
        (conv=>whnf);repeat((first|(refine KIf.f rfl ?_;conv=>whnf)|(refine Need.mk ?_ ?_;((constructor<;>omega));conv=>whnf)))
        refine⟨k+1,by omega,by dsimp only;omega,stay2 (q':=q) hss2 ?_⟩
        (refine Weak.ofG [0,1,2] [] [] rfl rfl rfl rfl ?_ ?_ ?_ ?_;exact⟨pQ rfl rfl,rQ hqq96,⟨rfl,rfl,WL.row (zcj hd96 zN)⟩,trivial⟩;exact gQ;exact zN;(focus((repeat' first|exact zT|exact so_W h9 zN|exact rfl|refine zA ?_ ?_))))
       ·have hrg:rgC ph 20 q.v x.f=rcP ph 20 x.f.r.toNat (at_ Rc.o q.v.rs x.f.r.toNat):=zoG hob2
        obtain⟨y,hy⟩:∃y,at_ Rc.o q.v.rs x.f.r.toNat=y:=⟨_,rfl⟩
        rw[hy] at hss hrg;have hxl:=(zez hob2).2.1
        have hx96:x.f.r.toNat<96:=by omega
        have hsz:=zkO y (by rw[←hy];exact(h3.at (by rw[←hqqn];exact(zez hob2).2.1)).1);by_cases hz:x.z=Ck.sizeOf y
        ·have hss2:sizeStep d q k=q:=by rw[hss];simp[hz]
         (conv=>whnf);repeat(first|rw[hrg]|refine DCall.lend (zF 20 []) (hsz) rfl ?_ ?_;exact zi2 (LiesS.mk (fun j hj=>zbd (Nat.lt_trans hj (by decide))) (fun j hj=>zaq (show j<220-20 from Nat.lt_trans hj (by decide)))) hxl hx96 hy|refine KIf.f (congrArg Bool.not (decide_eq_true hz)) ?_|refine KIf.t rfl ?_|refine Need.mk ?_ ?_;(first|trivial|(constructor<;>omega)));conv=>whnf
         refine⟨k+1,by omega,by dsimp only;omega,stay2 (q':=q) hss2 ?_⟩
         (refine Weak.ofG [0,1,2] [] [] rfl rfl rfl rfl ?_ ?_ ?_ ?_;exact⟨pQ rfl rfl,rQ hqq96,⟨rfl,rfl,WL.row (zcj hd96 zN)⟩,trivial⟩;exact gQ;exact zN;(focus((repeat' first|exact zT|exact so_W h9 zN|exact rfl|refine zA ?_ ?_))))
        ·have hss2:sizeStep d q k=(q.note 9 d k).setR d {at_ Rc.o q.v.rs d with es:=(at_ Rc.o q.v.rs d).es.set k {x with z:=Ck.sizeOf y}}:=by rw[hss];simp[hz]
         have hb9:q.fd.length≤1000000:=by omega
         have hoff3:0+((k:Nat):Int).toNat*4+3=k*4+3:=by simp
         have hgh:zhj (gP ph q) (2*d+1)=some (.row ((at_ Rc.o q.v.rs d).es.flatMap aEn) 73 4):=(zdP (by omega) (by omega)).trans hge
         (conv=>whnf);repeat(first|refine Need.mk ?_ ?_;exact hk0|rw[hrg]|refine DCall.lend (zF 20 []) (hsz) rfl ?_ ?_;exact zi2 (LiesS.mk (fun j hj=>zbd (Nat.lt_trans hj (by decide))) (fun j hj=>zaq (show j<220-20 from Nat.lt_trans hj (by decide)))) hxl hx96 hy|refine DCall.lend (zF 20 []) (hsz) rfl ?_ ?_;exact zi2 (LiesS.mk (fun j hj=>zbd (Nat.lt_trans hj (by decide))) (fun j hj=>(zaq (show j<220-20 from Nat.lt_trans hj (by decide))).trans (zdP (Nat.ne_of_lt hj) (Nat.ne_of_lt (Nat.lt_trans hj (by decide)))))) hxl hx96 hy|refine KIf.t (congrArg Bool.not (decide_eq_false hz)) ?_|refine KCall.liftK [0,1] (.tup []) [.row (nRow 1 241 242 (q.note 9 d k)) 106 0, .row (flatI (rcP ph 20) 0 (q).v.rs) 66 10, .row (((q.note 9 d k)).fd.flatMap aFd) 86 3, .row (((q.note 9 d k)).fl.map ib) 3 1] (zk6 ph q 9 d k hqq96 h3.rf.fl hb9) rfl (zab _ _) za0 ?_ ?_ ?_ ?_;exact⟨pF FR.L ⟨rfl,rfl⟩,rF FR.L hqq96,trivial⟩;(focus((repeat' first|exact zT|exact rfl|refine zA ?_ ?_)));exact⟨(by unfold Rn Rnl;trivial),rfl,⟨rfl,rfl, .inl (zfR rfl rfl rfl)⟩,⟨rfl,rfl, .inl (zb1 FN.L hqq96)⟩,⟨rfl,rfl, .inr ⟨rfl,zbR _⟩⟩,⟨rfl,rfl, .inr ⟨rfl,zbH _⟩⟩,trivial⟩|rw[e1]|refine zhm (enc:=aEn) (sz:=4) (fun _=>rfl) En.o (k:=3) {x with z:=Ck.sizeOf y} hoff3 rfl rfl rfl (fun y hy=>by rcases List.mem_singleton.1 hy with rfl;rfl) ((zaq (show 2*d+1<220-20 from h9)).trans hgh) hkx (by decide) (by rw[hx];rfl) ?_;(conv=>whnf);rw[zcW (j:=2*d+1) (show 2*d+1<220-20 from h9)]|refine KIf.t rfl ?_|refine Need.mk (p:=zah _=true) ?_ ?_;decide+kernel|refine Need.mk ?_ ?_;(first|trivial|(constructor<;>omega)));conv=>whnf
         have hp2:∀p∈[(192,241),(193,242)],2*d≠p.1∧2*d+1≠p.1:=by simp;omega
         have hp1:∀p∈[(192,241),(193,242)],2*d+1≠p.1:=fun p hp=>(hp2 p hp).2
         have hp3:∀p∈[(192,241),(193,242)],191<p.1:=by simp
         obtain⟨es',hes⟩:∃es',(at_ Rc.o q.v.rs d).es.set k {x with z:=Ck.sizeOf y}=es':=⟨_,rfl⟩
         have hesl:es'.length=(at_ Rc.o q.v.rs d).es.length:=by rw[←hes];exact List.length_set
         have hesn:es'≠[]:=fun e=>by rw[e] at hesl;exact hne (List.eq_nil_of_length_eq_zero hesl.symm)
         rw[hes] at hss2⊢;have hgs:=gP_setE (ph:=ph) (q:=q.note 9 d k) (d:=d) (es:=es') hqd hd96 hesn;refine⟨k+1,by omega,by dsimp only;omega,stay2 hss2 ?_⟩;refine Weak.ofG [0,1,2] [] [(192,241),(193,242)] rfl rfl rfl rfl ?_ ?_ ?_ ?_
         ·refine⟨⟨rfl,rfl,WL.row (znR ⟨rfl,rfl⟩ ⟨rfl,rfl,(List.length_set).symm,rfl,rfl⟩ rfl rfl rfl rfl)⟩,⟨rfl,rfl,?_⟩,⟨rfl,rfl,WL.row (zcj hd96 hp2)⟩,trivial⟩;show WRowG _ _ _ (flatI (rcP ph 20) 0 (q.v.rs.set d _)) _;rw[zfq (rcP ph 20) Rc.o q.v.rs 0 d _ (by rw[Nat.zero_add];exact rcP_es hesl)];exact WL.row (zdo hqq96 hp3)
         ·intro j o1 ho hj;have e1:j≠192:=hj (192,241) (by simp);have e2:j≠193:=hj (193,242) (by simp);refine⟨?_,zab _ _ j o1 ho⟩;rw[←ho];refine Eq.trans ?_ (congrFun hgs j).symm;by_cases h1:j=2*d+1
          ·rw[zcc,zcc,if_pos h1,if_pos h1]
          ·rw[zbh h1,zbh h1,zdP e1 e2];exact(ziE (ph:=ph) (p:=q) (q:=q.note 9 d k) rfl e1 e2).symm
         ·intro p9 hp9 o1 ho;refine note_ov (ph:=ph) (p:=q) (k:=9) (r0:=d) (i:=k) rfl (List.flatMap_append ..) rfl (List.map_append ..) p9 hp9 o1 ?_;rw[←ho];refine Eq.trans ?_ (congrFun hgs _).symm;rw[zbh (hp1 p9 hp9).symm]
         ·(repeat' first|exact zT|exact so_W h9 hp1|exact rfl|refine zA ?_ ?_)
      ·(conv=>whnf);repeat(((refine Need.mk ?_ ?_;((constructor<;>omega));conv=>whnf)))
       refine⟨d+1,by omega,by dsimp only;omega,stay (q':=q) ((hfin2 (by omega)).symm) ?_⟩
       (refine Weak.ofG [0,1] [] [] rfl rfl rfl rfl ?_ ?_ ?_ ?_;exact⟨pQ rfl rfl,rQ hqq96,trivial⟩;exact gQ;exact zN;(focus((repeat' first|exact zT|exact rfl|refine zA ?_ ?_))))
  ·conv=>whnf
   rw[←hfin (by omega)];refine⟨?_⟩
   (refine Weak.ofG [0,1] [] [] rfl rfl rfl rfl ?_ ?_ ?_ ?_;exact⟨pQ rfl rfl,rQ hq96,trivial⟩;exact gQ;exact zN;(focus((repeat' first|exact zT|refine zA ?_ ?_))))
end Go.Proofs.YtgcjejajljhnaaaGreatDoor
